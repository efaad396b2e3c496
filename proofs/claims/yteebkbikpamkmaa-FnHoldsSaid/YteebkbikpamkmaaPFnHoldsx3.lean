-- Written by a program of this session, over the kit's print (wip/xprint.py)
import Derived.Test.YteebkbikpamkmaaPFnHoldsx0
import Derived.Test.YteebkbikpamkmaaPFnHoldsx2
namespace Go.Proofs.Yteebkbikpamkmaa.PFnHolds
open Go.RowKit Go.Proofs.YteebkbikpamkmaaW.PrintWords Go.Proofs.YteebkbikpamkmaaW.PrintLast Go.Proofs.YteebkbikpamkmaaW.PrintMore
attribute [local go_sem] max2_int min2_int max_two min_two max_three min_three max_four min_four   -- for this text's walks alone
set_option linter.unusedVariables false
set_option linter.unusedSimpArgs false

/-! ### spec_l1Cur_file: function 37 -/
theorem IsS61.grownX3 {w0 W : World} {g : Nat} {f0 : List Int} {f1 : Int} {f2 : Int} {W1 : World} {row : Option Nat} {W0 : World} (h0 : IsS61 w0 W0 g f0 f1 f2) (h : IsS61 w0 W g f0 f1 f2) (hw : W.grownBy W1 row) (hne : some g ≠ row) : IsS61 w0 W1 g f0 f1 f2:=IsS61.grown h hw hne
mutual
def spec_l1Cur_file.l0 : Nat → List (S52) → Int → Int → List Int → Int → Int → Option ((List (S52)) × Int × Int)
 | 0,_,_,_,_,_,_ => none
 | k + 1,x3,x4,x5,x1000,x1001,x1002 => if x5 > 0 then ((spec_l1Cur_id20.f k x1000 x1001 x1002).bind fun bt140 => ((spec_l1Cur_pick.f x1000 bt140.2.1 bt140.2.2 15).bind fun bt143 => ((spec_l20At.f k x3 (x3.length : Int) bt140.1).bind fun t147 => (if t147 = 0 then (spec_l1Cur_file.j1 k x3 x4 x5 t147 false x1000 bt143.2.1 bt143.2.2 x4 bt140.1 true (wrap64 (1 + bt143.1))) else ((spec_l1Cur_one.f x1000 bt143.2.1 bt143.2.2 2).bind fun bt148 => (spec_l1Cur_file.j1 k x3 x4 x5 t147 bt148.1 x1000 bt148.2.1 bt148.2.2 x4 bt140.1 true (wrap64 (1 + bt143.1)))))))) else (if (x3.length : Int) = 0 then (some (x3,x1001,x1002)) else ((spec_l1Cur_pick.f x1000 x1001 x1002 (x3.length : Int)).bind fun bt181 => (if 0 ≤ bt181.1 then (if bt181.1 < (x3.length : Int) then ((spec_l1Cur_pick.f x1000 bt181.2.1 bt181.2.2 40).bind fun bt186 => (if bt186.1 = 0 then ((spec_l1Cur_among.f x1000 bt186.2.1 bt186.2.2 (([(-1),240,241,0] : List Int))).bind fun bt192 => (some ((x3.set (bt181.1 : Int).toNat (⟨bt192.1,(rd_T52 x3 bt181.1).f1,(rd_T52 x3 bt181.1).f2,(rd_T52 x3 bt181.1).f3⟩ : S52)),bt192.2.1,bt192.2.2))) else (if bt186.1 = 1 then ((spec_l1Cur_of.f x1000 bt186.2.1 bt186.2.2 (([(⟨#[]⟩ : ByteArray),(⟨#[65,66,67,48,48,48,49,90]⟩ : ByteArray),(⟨#[97,98,99]⟩ : ByteArray)] : List ByteArray))).bind fun bt199 => (some ((x3.set (bt181.1 : Int).toNat (⟨(rd_T52 x3 bt181.1).f0,bt199.1,(rd_T52 x3 bt181.1).f2,(rd_T52 x3 bt181.1).f3⟩ : S52)),bt199.2.1,bt199.2.2))) else (if bt186.1 = 2 then ((spec_l1Cur_among.f x1000 bt186.2.1 bt186.2.2 (([0,16,15] : List Int))).bind fun bt206 => (some ((x3.set (bt181.1 : Int).toNat (⟨(rd_T52 x3 bt181.1).f0,(rd_T52 x3 bt181.1).f1,(rd_T52 x3 bt181.1).f2,bt206.1⟩ : S52)),bt206.2.1,bt206.2.2))) else (if bt186.1 = 3 then (some ((x3.set (bt181.1 : Int).toNat (⟨(rd_T52 x3 bt181.1).f0,(rd_T52 x3 bt181.1).f1,!((rd_T52 x3 bt181.1).f2),(rd_T52 x3 bt181.1).f3⟩ : S52)),bt186.2.1,bt186.2.2)) else (if bt186.1 = 4 then (if ((x3.length : Int) % 2) = 1 then (if 1 ≤ (x3.length : Int) then ((spec_l1Cur_id20.f k x1000 bt186.2.1 bt186.2.2).bind fun bt214 => (spec_l1Cur_file.j2 k (([(⟨0,bt214.1,true,1⟩ : S52),(⟨0,bt214.1,false,1⟩ : S52)] : List (S52))) 0 x1000 bt214.2.1 bt214.2.2 0 bt214.1 true 1)) else (none)) else (spec_l1Cur_file.j2 k x3 bt181.1 x1000 bt186.2.1 bt186.2.2 ((rd_T52 x3 bt181.1).f0) ((rd_T52 x3 bt181.1).f1) ((rd_T52 x3 bt181.1).f2) ((rd_T52 x3 bt181.1).f3))) else (some ((x3.set (bt181.1 : Int).toNat (⟨(rd_T52 x3 bt181.1).f0,(rd_T52 x3 bt181.1).f1,(rd_T52 x3 bt181.1).f2,(rd_T52 x3 bt181.1).f3⟩ : S52)),bt186.2.1,bt186.2.2)))))))) else (none)) else (none))))
def spec_l1Cur_file.j1 : Nat → List (S52) → Int → Int → Int → Bool → List Int → Int → Int → Int → ByteArray → Bool → Int → Option ((List (S52)) × Int × Int)
 | 0,_,_,_,_,_,_,_,_,_,_,_,_ => none
 | k + 1,x3,x4,x5,x7,x39,x1000,x1001,x1002,x147000,x147001,x147002,x147003 => if x39 = true then (if (Go.bits .and .i64 x147003 x7) > 0 then (if x3.length < 3518437208883 then ((spec_l1Cur_among.f x1000 x1001 x1002 (([0,1,5,24] : List Int))).bind fun bt157 => (spec_l1Cur_file.l0 k (x3 ++ [(⟨x147000,x147001,false,Go.bits .and .i64 x147003 x7⟩ : S52)]) (wrap64 (x4 + bt157.1)) (wrap64 (x5 - 1)) x1000 bt157.2.1 bt157.2.2)) else (none)) else ((spec_l1Cur_among.f x1000 x1001 x1002 (([0,1,5,24] : List Int))).bind fun bt163 => (spec_l1Cur_file.l0 k x3 (wrap64 (x4 + bt163.1)) (wrap64 (x5 - 1)) x1000 bt163.2.1 bt163.2.2))) else (if (Go.bits .andNot .i64 x147003 x7) > 0 then (if x3.length < 3518437208883 then ((spec_l1Cur_among.f x1000 x1001 x1002 (([0,1,5,24] : List Int))).bind fun bt172 => (spec_l1Cur_file.l0 k (x3 ++ [(⟨x147000,x147001,x147002,Go.bits .andNot .i64 x147003 x7⟩ : S52)]) (wrap64 (x4 + bt172.1)) (wrap64 (x5 - 1)) x1000 bt172.2.1 bt172.2.2)) else (none)) else ((spec_l1Cur_among.f x1000 x1001 x1002 (([0,1,5,24] : List Int))).bind fun bt178 => (spec_l1Cur_file.l0 k x3 (wrap64 (x4 + bt178.1)) (wrap64 (x5 - 1)) x1000 bt178.2.1 bt178.2.2)))
def spec_l1Cur_file.j2 : Nat → List (S52) → Int → List Int → Int → Int → Int → ByteArray → Bool → Int → Option ((List (S52)) × Int × Int)
 | 0,_,_,_,_,_,_,_,_,_ => none
 | k + 1,x3,x8,x1000,x1001,x1002,x186000,x186001,x186002,x186003 => (spec_l1Cur_pick.f x1000 x1001 x1002 2).bind fun bt220 => (spec_l1Cur_file.l1 k x3 x8 (wrap64 (20 + bt220.1)) x1000 bt220.2.1 bt220.2.2 x186000 x186001 x186002 x186003)
def spec_l1Cur_file.l1 : Nat → List (S52) → Int → Int → List Int → Int → Int → Int → ByteArray → Bool → Int → Option ((List (S52)) × Int × Int)
 | 0,_,_,_,_,_,_,_,_,_,_ => none
 | k + 1,x3,x8,x10,x1000,x1001,x1002,x186000,x186001,x186002,x186003 => if (x3.length : Int) < x10 then ((spec_l2Check.f k (⟨#[88,89,90,48,48,48,57]⟩ : ByteArray)).bind fun t223 => ((some (([t223] : List Int) : List Int)).bind fun y224 => (if 7 + (strOfNums y224).size ≤ 9223372036854775807 then (if x3.length < 3518437208883 then (spec_l1Cur_file.l1 k (x3 ++ [(⟨240,(⟨#[88,89,90,48,48,48,57]⟩ : ByteArray) ++ (strOfNums y224),(((x3.length : Int) % 2) == 0),1⟩ : S52)]) x8 x10 x1000 x1001 x1002 x186000 x186001 x186002 x186003) else (none)) else (none)))) else (if 0 ≤ x8 then (if x8 < (x3.length : Int) then (some ((x3.set (x8 : Int).toNat (⟨x186000,x186001,x186002,x186003⟩ : S52)),x1001,x1002)) else (none)) else (none))
end
def spec_l1Cur_file.f (k : Nat) (s0_0 : List Int) (s0_1 : Int) (s0_2 : Int) : Option ((List (S52)) × Int × Int):=(spec_l1Cur_pick.f s0_0 s0_1 s0_2 4).bind fun bt134 => ((spec_l1Cur_pick.f s0_0 bt134.2.1 bt134.2.2 10).bind fun bt137 => (spec_l1Cur_file.l0 k (([] : List (S52))) bt134.1 bt137.1 s0_0 bt137.2.1 bt137.2.2))
theorem spec_l1Cur_file.mono_l : ∀ k,(∀ y0 y1 y2 y3 y4 y5,LeO (spec_l1Cur_file.l0 k y0 y1 y2 y3 y4 y5) (spec_l1Cur_file.l0 (k + 1) y0 y1 y2 y3 y4 y5)) ∧ (∀ y0 y1 y2 y3 y4 y5 y6 y7 y8 y9 y10 y11,LeO (spec_l1Cur_file.j1 k y0 y1 y2 y3 y4 y5 y6 y7 y8 y9 y10 y11) (spec_l1Cur_file.j1 (k + 1) y0 y1 y2 y3 y4 y5 y6 y7 y8 y9 y10 y11)) ∧ (∀ y0 y1 y2 y3 y4 y5 y6 y7 y8,LeO (spec_l1Cur_file.j2 k y0 y1 y2 y3 y4 y5 y6 y7 y8) (spec_l1Cur_file.j2 (k + 1) y0 y1 y2 y3 y4 y5 y6 y7 y8)) ∧ (∀ y0 y1 y2 y3 y4 y5 y6 y7 y8 y9,LeO (spec_l1Cur_file.l1 k y0 y1 y2 y3 y4 y5 y6 y7 y8 y9) (spec_l1Cur_file.l1 (k + 1) y0 y1 y2 y3 y4 y5 y6 y7 y8 y9))
 | 0 => ⟨fun _ _ _ _ _ _ r h => by simp [spec_l1Cur_file.l0] at h,fun _ _ _ _ _ _ _ _ _ _ _ _ r h => by simp [spec_l1Cur_file.j1] at h,fun _ _ _ _ _ _ _ _ _ r h => by simp [spec_l1Cur_file.j2] at h,fun _ _ _ _ _ _ _ _ _ _ r h => by simp [spec_l1Cur_file.l1] at h⟩
 | k + 1 => by
  obtain ⟨ih0,ih1,ih2,ih3⟩ := spec_l1Cur_file.mono_l k
  refine ⟨?_, ?_, ?_, ?_⟩
  ·intro y0 y1 y2 y3 y4 y5
   unfold spec_l1Cur_file.l0
   repeat' first
   | (with_reducible exact ih0 _ _ _ _ _ _)
   | (with_reducible exact ih1 _ _ _ _ _ _ _ _ _ _ _ _)
   | (with_reducible exact ih2 _ _ _ _ _ _ _ _ _)
   | (with_reducible exact ih3 _ _ _ _ _ _ _ _ _ _)
   | (with_reducible exact spec_l1Cur_id20.mono _ _ _ _)
   | (with_reducible exact spec_l20At.mono _ _ _ _)
   | (with_reducible exact spec_l2Check.mono _ _)
   | (with_reducible exact LeO.refl _)
   | (with_reducible exact LeO.none _)
   | (with_reducible refine LeO.ite ?_ ?_)
   | (with_reducible refine LeO.bind ?_ (fun _ => ?_))
   | exact ih0 _ _ _ _ _ _
   | exact ih1 _ _ _ _ _ _ _ _ _ _ _ _
   | exact ih2 _ _ _ _ _ _ _ _ _
   | exact ih3 _ _ _ _ _ _ _ _ _ _
   | exact spec_l1Cur_id20.mono _ _ _ _
   | exact spec_l20At.mono _ _ _ _
   | exact spec_l2Check.mono _ _
   | exact LeO.none _
   | refine LeO.ite ?_ ?_
   | refine LeO.bind ?_ (fun _ => ?_)
  ·intro y0 y1 y2 y3 y4 y5 y6 y7 y8 y9 y10 y11
   unfold spec_l1Cur_file.j1
   repeat' first
   | (with_reducible exact ih0 _ _ _ _ _ _)
   | (with_reducible exact ih1 _ _ _ _ _ _ _ _ _ _ _ _)
   | (with_reducible exact ih2 _ _ _ _ _ _ _ _ _)
   | (with_reducible exact ih3 _ _ _ _ _ _ _ _ _ _)
   | (with_reducible exact spec_l1Cur_id20.mono _ _ _ _)
   | (with_reducible exact spec_l20At.mono _ _ _ _)
   | (with_reducible exact spec_l2Check.mono _ _)
   | (with_reducible exact LeO.refl _)
   | (with_reducible exact LeO.none _)
   | (with_reducible refine LeO.ite ?_ ?_)
   | (with_reducible refine LeO.bind ?_ (fun _ => ?_))
   | exact ih0 _ _ _ _ _ _
   | exact ih1 _ _ _ _ _ _ _ _ _ _ _ _
   | exact ih2 _ _ _ _ _ _ _ _ _
   | exact ih3 _ _ _ _ _ _ _ _ _ _
   | exact spec_l1Cur_id20.mono _ _ _ _
   | exact spec_l20At.mono _ _ _ _
   | exact spec_l2Check.mono _ _
   | exact LeO.none _
   | refine LeO.ite ?_ ?_
   | refine LeO.bind ?_ (fun _ => ?_)
  ·intro y0 y1 y2 y3 y4 y5 y6 y7 y8
   unfold spec_l1Cur_file.j2
   repeat' first
   | (with_reducible exact ih0 _ _ _ _ _ _)
   | (with_reducible exact ih1 _ _ _ _ _ _ _ _ _ _ _ _)
   | (with_reducible exact ih2 _ _ _ _ _ _ _ _ _)
   | (with_reducible exact ih3 _ _ _ _ _ _ _ _ _ _)
   | (with_reducible exact spec_l1Cur_id20.mono _ _ _ _)
   | (with_reducible exact spec_l20At.mono _ _ _ _)
   | (with_reducible exact spec_l2Check.mono _ _)
   | (with_reducible exact LeO.refl _)
   | (with_reducible exact LeO.none _)
   | (with_reducible refine LeO.ite ?_ ?_)
   | (with_reducible refine LeO.bind ?_ (fun _ => ?_))
   | exact ih0 _ _ _ _ _ _
   | exact ih1 _ _ _ _ _ _ _ _ _ _ _ _
   | exact ih2 _ _ _ _ _ _ _ _ _
   | exact ih3 _ _ _ _ _ _ _ _ _ _
   | exact spec_l1Cur_id20.mono _ _ _ _
   | exact spec_l20At.mono _ _ _ _
   | exact spec_l2Check.mono _ _
   | exact LeO.none _
   | refine LeO.ite ?_ ?_
   | refine LeO.bind ?_ (fun _ => ?_)
  ·intro y0 y1 y2 y3 y4 y5 y6 y7 y8 y9
   unfold spec_l1Cur_file.l1
   repeat' first
   | (with_reducible exact ih0 _ _ _ _ _ _)
   | (with_reducible exact ih1 _ _ _ _ _ _ _ _ _ _ _ _)
   | (with_reducible exact ih2 _ _ _ _ _ _ _ _ _)
   | (with_reducible exact ih3 _ _ _ _ _ _ _ _ _ _)
   | (with_reducible exact spec_l1Cur_id20.mono _ _ _ _)
   | (with_reducible exact spec_l20At.mono _ _ _ _)
   | (with_reducible exact spec_l2Check.mono _ _)
   | (with_reducible exact LeO.refl _)
   | (with_reducible exact LeO.none _)
   | (with_reducible refine LeO.ite ?_ ?_)
   | (with_reducible refine LeO.bind ?_ (fun _ => ?_))
   | exact ih0 _ _ _ _ _ _
   | exact ih1 _ _ _ _ _ _ _ _ _ _ _ _
   | exact ih2 _ _ _ _ _ _ _ _ _
   | exact ih3 _ _ _ _ _ _ _ _ _ _
   | exact spec_l1Cur_id20.mono _ _ _ _
   | exact spec_l20At.mono _ _ _ _
   | exact spec_l2Check.mono _ _
   | exact LeO.none _
   | refine LeO.ite ?_ ?_
   | refine LeO.bind ?_ (fun _ => ?_)
theorem spec_l1Cur_file.mono : ∀ a0 a1 a2 k,LeO (spec_l1Cur_file.f k a0 a1 a2) (spec_l1Cur_file.f (k + 1) a0 a1 a2):=by
 intro a0 a1 a2 k
 obtain ⟨ih0,ih1,ih2,ih3⟩ := spec_l1Cur_file.mono_l k
 unfold spec_l1Cur_file.f
 repeat' first
   | (with_reducible exact ih0 _ _ _ _ _ _)
   | (with_reducible exact ih1 _ _ _ _ _ _ _ _ _ _ _ _)
   | (with_reducible exact ih2 _ _ _ _ _ _ _ _ _)
   | (with_reducible exact ih3 _ _ _ _ _ _ _ _ _ _)
   | (with_reducible exact spec_l1Cur_id20.mono _ _ _ _)
   | (with_reducible exact spec_l20At.mono _ _ _ _)
   | (with_reducible exact spec_l2Check.mono _ _)
   | (with_reducible exact LeO.refl _)
   | (with_reducible exact LeO.none _)
   | (with_reducible refine LeO.ite ?_ ?_)
   | (with_reducible refine LeO.bind ?_ (fun _ => ?_))
   | exact ih0 _ _ _ _ _ _
   | exact ih1 _ _ _ _ _ _ _ _ _ _ _ _
   | exact ih2 _ _ _ _ _ _ _ _ _
   | exact ih3 _ _ _ _ _ _ _ _ _ _
   | exact spec_l1Cur_id20.mono _ _ _ _
   | exact spec_l20At.mono _ _ _ _
   | exact spec_l2Check.mono _ _
   | exact LeO.none _
   | refine LeO.ite ?_ ?_
   | refine LeO.bind ?_ (fun _ => ?_)
set_option maxHeartbeats 8000000 in
set_option maxRecDepth 100000 in
theorem spec_l1Cur_file.calls (k : Nat) (g : Nat) (s0_0 : List Int) (s0_1 : Int) (s0_2 : Int) (r1 : List (S52)) (r2 : Int) (r3 : Int) (w0 w : World) (hI : IsS61 w0 w g s0_0 s0_1 s0_2) (hB : Below w0.heap.size w0 w) (h : spec_l1Cur_file.f k s0_0 s0_1 s0_2 = some (r1,r2,r3)) :
  Calls Try.prog 37 #[.pointer (some ⟨g,0,none⟩)] w fun e w' => ∃ v0_ : Value,e = .returned (v0_) ∧ Kd.Q k52 52 w' w.heap.size (fun _ => True) v0_ r1 ∧ IsS61 w0 w' g s0_0 r2 r3 ∧ Below w0.heap.size w0 w' ∧ KeepBut w w' g none:=by
 have hu52:=Try.underlying52
 have HI0:=Aside0.mk hI
 have HK:=Aside0.mk (KeepBut.refl w g none)
 have HL:=Aside0.mk hB.size
 clear hI
 have HW0:=Aside0.mk hB.size
 have HB:=Aside0.mk hB
 clear hB
 have H : ((spec_l1Cur_pick.f s0_0 s0_1 s0_2 4).bind fun bt134 => ((spec_l1Cur_pick.f s0_0 bt134.2.1 bt134.2.2 10).bind fun bt137 => (spec_l1Cur_file.l0 k (([] : List (S52))) bt134.1 bt137.1 s0_0 bt137.2.1 bt137.2.2))) = some (r1,r2,r3):=h
 clear h
 obtain ⟨y131,hy131⟩ : ∃ y_ : List (S52),y_ = (([] : List (S52))):=⟨_,rfl⟩
 replace H : ((spec_l1Cur_pick.f s0_0 s0_1 s0_2 4).bind fun bt134 => ((spec_l1Cur_pick.f s0_0 bt134.2.1 bt134.2.2 10).bind fun bt137 => (spec_l1Cur_file.l0 k y131 bt134.1 bt137.1 s0_0 bt137.2.1 bt137.2.2))) = some (r1,r2,r3):=by (rw [hy131];with_reducible exact H)
 have Ny131:=Aside0.mk hy131
 clear hy131
 replace H:=Option.bind_eq_some_iff.mp H
 obtain ⟨⟨t134,t135,t136⟩,A20,H⟩ := H
 replace H : ((spec_l1Cur_pick.f s0_0 t135 t136 10).bind fun bt137 => (spec_l1Cur_file.l0 k y131 t134 bt137.1 s0_0 bt137.2.1 bt137.2.2)) = some (r1,r2,r3):=H
 have A2:=Aside0.mk A20
 clear A20
 replace H:=Option.bind_eq_some_iff.mp H
 obtain ⟨⟨t137,t138,t139⟩,A30,H⟩ := H
 replace H : (spec_l1Cur_file.l0 k y131 t134 t137 s0_0 t138 t139) = some (r1,r2,r3):=H
 have A3:=Aside0.mk A30
 clear A30
 have H':=Aside0.mk H
 clear H
 go_enter Try.func37,Try.ntmps37
 go_wp2_with (first | ((with_reducible refine gate_dst (N:=12) rfl ?_);refine Kd.R_lit k52 _ 52 ?hg (N:=12) ?hd (xs:=([] : List (S52))) (inner := []) (ok:=fun _ => True) (okp:=fun _ => True) ?hr ?hp (fun _ hk => hk) trivial (Below.refl _ _) (Nat.le_refl _) (by simp) ?_;(case hd => rfl);(case hg => rfl);(case hr => (go_simp;done));(case hp => exact (Reps.none _ _));intro v132 w4 ho5 hb hg_ hnew_;clear hg_ hnew_;(rw [← Ny131.out] at ho5);have n0_:=Aside0.mk (Kd.R_lower ho5 (keep_size (w:=w) (g:=g) (row:=none) (by exact HK.out)));have n1_:=Aside0.mk (IsS61.below (by exact HI0.out) hb);have n2_:=Aside0.mk (KeepBut.trans (by exact HK.out) (KeepBut.of_below hb g none) (.inl rfl));have n3_:=Aside0.mk (below_step (by exact HB.out) hb);clear HI0;clear HK;clear HB;have HO133:=n0_;have HI0:=n1_;have HK:=n2_;have HB:=n3_;clear n0_ n1_ n2_ n3_;clear hb ho5) | ((with_reducible refine gate_callee (f:=45) rfl ?_);refine goesL_ (some 14) rfl rfl Try.func45 (by kernel_rfl) rfl #[.pointer (some ⟨g,0,none⟩), .int .i64 4] rfl (by (try simp only [List.map_toArray,List.map_cons,List.map_nil]);rfl) ?_;(with_reducible refine (spec_l1Cur_pick.calls g s0_0 s0_1 s0_2 4 t134 t135 t136 w0 _ ?side1 ?side2 A2.out).mono ?_);(case side1 => exact HI0.out);(case side2 => exact HB.out);rintro e w6 ⟨rfl,hi,hb,hk⟩;refine ⟨_,rfl, ?_⟩;have n0_:=Aside0.mk (Kd.R_mono (Kd.R_keep (IsS61.apart (show IsS61 w0 _ g s0_0 s0_1 s0_2 from by exact HI0.out) (by exact HO133.out) (by decide)) hk (fun _ h => h.2)) (fun _ h => h.1));have n1_:=Aside0.mk (KeepBut.trans (by exact HK.out) hk (.inl rfl));have n2_:=Aside0.mk (hb);have n3_:=Aside0.mk (hi);clear HO133;clear HK;clear HB;clear HI0;have HO133:=n0_;have HK:=n1_;have HB:=n2_;have HI0:=n3_;clear n0_ n1_ n2_ n3_;(try clear hb);(try clear hk);(try clear hi)) | ((with_reducible refine gate_callee (f:=45) rfl ?_);refine goesL_ (some 16) rfl rfl Try.func45 (by kernel_rfl) rfl #[.pointer (some ⟨g,0,none⟩), .int .i64 10] rfl (by (try simp only [List.map_toArray,List.map_cons,List.map_nil]);rfl) ?_;(with_reducible refine (spec_l1Cur_pick.calls g s0_0 t135 t136 10 t137 t138 t139 w0 _ ?side1 ?side2 A3.out).mono ?_);(case side1 => exact HI0.out);(case side2 => exact HB.out);rintro e w7 ⟨rfl,hi,hb,hk⟩;refine ⟨_,rfl, ?_⟩;have n0_:=Aside0.mk (Kd.R_mono (Kd.R_keep (IsS61.apart (show IsS61 w0 _ g s0_0 t135 t136 from by exact HI0.out) (by exact HO133.out) (by decide)) hk (fun _ h => h.2)) (fun _ h => h.1));have n1_:=Aside0.mk (KeepBut.trans (by exact HK.out) hk (.inl rfl));have n2_:=Aside0.mk (hb);have n3_:=Aside0.mk (hi);clear HO133;clear HK;clear HB;clear HI0;have HO133:=n0_;have HK:=n1_;have HB:=n2_;have HI0:=n3_;clear n0_ n1_ n2_ n3_;(try clear hb);(try clear hk);(try clear hi)))
 go_loopg [3,4,5] k (fun kq v3 v4 v5 w' => ∃ (x3_1 : List (S52)) (x4_1 : Int) (x5_1 : Int) (x1001_1 : Int) (x1002_1 : Int),v4 = .int .i64 x4_1 ∧ v5 = .int .i64 x5_1 ∧ Aside0 (spec_l1Cur_file.l0 kq x3_1 x4_1 x5_1 s0_0 x1001_1 x1002_1 = some (r1,r2,r3)) ∧ Aside0 (kq ≤ k) ∧ Aside0 (Kd.Q k52 52 w' w.heap.size (fun _ => True) v3 x3_1) ∧ Aside0 (IsS61 w0 w' g s0_0 x1001_1 x1002_1) ∧ Aside0 (KeepBut w w' g none) ∧ Aside0 (Below w0.heap.size w0 w'))
 case atStart => exact ⟨(y131),(t134),(t137),(t138),(t139),(by rfl),(by rfl),H',⟨Nat.le_refl _⟩,⟨Kd.Q_of_R (by exact HO133.out)⟩,⟨by exact HI0.out⟩,⟨by exact HK.out⟩,⟨by exact HB.out⟩⟩
 case round =>
  clear H'
  try clear p2
  try clear c3
  try clear c4
  obtain ⟨x3_1,x4_1,x5_1,x1001_1,x1002_1,rfl,rfl,HA,HK1,HO_3,HI0,HK,HB⟩ := hrel
  cases gk with
  | zero => exact absurd HA.out (by simp [spec_l1Cur_file.l0])
  | succ k1 =>
   have H:=HA.out
   clear HA
   simp only [spec_l1Cur_file.l0] at H
   by_cases c8 : x5_1 > 0
   ·rw [if_pos c8] at H
    have c8b0 : decide (0 < x5_1) = true:=decide_eq_true c8
    clear c8
    replace H:=Option.bind_eq_some_iff.mp H
    obtain ⟨⟨t140,t141,t142⟩,A90,H⟩ := H
    replace H : ((spec_l1Cur_pick.f s0_0 t141 t142 15).bind fun bt143 => ((spec_l20At.f k1 x3_1 (x3_1.length : Int) t140).bind fun t147 => (if t147 = 0 then (spec_l1Cur_file.j1 k1 x3_1 x4_1 x5_1 t147 false s0_0 bt143.2.1 bt143.2.2 x4_1 t140 true (wrap64 (1 + bt143.1))) else ((spec_l1Cur_one.f s0_0 bt143.2.1 bt143.2.2 2).bind fun bt148 => (spec_l1Cur_file.j1 k1 x3_1 x4_1 x5_1 t147 bt148.1 s0_0 bt148.2.1 bt148.2.2 x4_1 t140 true (wrap64 (1 + bt143.1))))))) = some (r1,r2,r3):=H
    have A9:=Aside0.mk A90
    clear A90
    replace H:=Option.bind_eq_some_iff.mp H
    obtain ⟨⟨t143,t144,t145⟩,A100,H⟩ := H
    replace H : ((spec_l20At.f k1 x3_1 (x3_1.length : Int) t140).bind fun t147 => (if t147 = 0 then (spec_l1Cur_file.j1 k1 x3_1 x4_1 x5_1 t147 false s0_0 t144 t145 x4_1 t140 true (wrap64 (1 + t143))) else ((spec_l1Cur_one.f s0_0 t144 t145 2).bind fun bt148 => (spec_l1Cur_file.j1 k1 x3_1 x4_1 x5_1 t147 bt148.1 s0_0 bt148.2.1 bt148.2.2 x4_1 t140 true (wrap64 (1 + t143)))))) = some (r1,r2,r3):=H
    have A10:=Aside0.mk A100
    clear A100
    replace H:=Option.bind_eq_some_iff.mp H
    obtain ⟨t147,A110,H⟩ := H
    replace H : (if t147 = 0 then (spec_l1Cur_file.j1 k1 x3_1 x4_1 x5_1 t147 false s0_0 t144 t145 x4_1 t140 true (wrap64 (1 + t143))) else ((spec_l1Cur_one.f s0_0 t144 t145 2).bind fun bt148 => (spec_l1Cur_file.j1 k1 x3_1 x4_1 x5_1 t147 bt148.1 s0_0 bt148.2.1 bt148.2.2 x4_1 t140 true (wrap64 (1 + t143))))) = some (r1,r2,r3):=H
    have A11:=Aside0.mk A110
    clear A110
    have HC12:=Aside0.mk H
    clear H
    go_upto_region 8 with (first | ((with_reducible refine gate_callee (f:=54) rfl ?_);refine goesL_ (some 23) rfl rfl Try.func54 (by kernel_rfl) rfl #[.pointer (some ⟨g,0,none⟩)] rfl (by (try simp only [List.map_toArray,List.map_cons,List.map_nil]);rfl) ?_;(with_reducible refine (spec_l1Cur_id20.calls k1 g s0_0 x1001_1 x1002_1 t140 t141 t142 w0 _ ?side1 ?side2 A9.out).mono ?_);(case side1 => exact HI0.out);(case side2 => exact HB.out);rintro e w13 ⟨rfl,hi,hb,hk⟩;refine ⟨_,rfl, ?_⟩;have n0_:=Aside0.mk (Kd.Q_mono (Kd.Q_keep (IsS61.apartQ (show IsS61 w0 _ g s0_0 x1001_1 x1002_1 from by exact HI0.out) (by exact HO_3.out) (by decide)) hk (fun _ h => h.2)) (fun _ h => h.1));have n1_:=Aside0.mk (KeepBut.trans (by exact HK.out) hk (.inl rfl));have n2_:=Aside0.mk (hb);have n3_:=Aside0.mk (hi);clear HO_3;clear HK;clear HB;clear HI0;have HO_3:=n0_;have HK:=n1_;have HB:=n2_;have HI0:=n3_;clear n0_ n1_ n2_ n3_;(try clear hb);(try clear hk);(try clear hi)) | ((with_reducible refine gate_callee (f:=45) rfl ?_);refine goesL_ (some 25) rfl rfl Try.func45 (by kernel_rfl) rfl #[.pointer (some ⟨g,0,none⟩), .int .i64 15] rfl (by (try simp only [List.map_toArray,List.map_cons,List.map_nil]);rfl) ?_;(with_reducible refine (spec_l1Cur_pick.calls g s0_0 t141 t142 15 t143 t144 t145 w0 _ ?side1 ?side2 A10.out).mono ?_);(case side1 => exact HI0.out);(case side2 => exact HB.out);rintro e w14 ⟨rfl,hi,hb,hk⟩;refine ⟨_,rfl, ?_⟩;have n0_:=Aside0.mk (Kd.Q_mono (Kd.Q_keep (IsS61.apartQ (show IsS61 w0 _ g s0_0 t141 t142 from by exact HI0.out) (by exact HO_3.out) (by decide)) hk (fun _ h => h.2)) (fun _ h => h.1));have n1_:=Aside0.mk (KeepBut.trans (by exact HK.out) hk (.inl rfl));have n2_:=Aside0.mk (hb);have n3_:=Aside0.mk (hi);clear HO_3;clear HK;clear HB;clear HI0;have HO_3:=n0_;have HK:=n1_;have HB:=n2_;have HI0:=n3_;clear n0_ n1_ n2_ n3_;(try clear hb);(try clear hk);(try clear hi)) | ((with_reducible refine gate_dst (N:=6) rfl ?_);refine box_event ?hg (N:=6) ?hd (cs:=#[.int .i64 0, .string (⟨#[]⟩ : ByteArray), .bool false, .int .i64 0]) (t:=52) ?hr ?_;(case hd => rfl);(case hg => rfl);(case hr => (go_simp;done));intro gb146 hg w15 hbox hb;have n0_:=Aside0.mk (Kd.Q_below (Kd.Q_elderB (by exact HO_3.out) gb146 (Nat.le_of_eq hg.symm)) hb);have n1_:=Aside0.mk (IsS61.below (by exact HI0.out) hb);have n2_:=Aside0.mk (KeepBut.trans (by exact HK.out) (KeepBut.of_below hb g none) (.inl rfl));have n3_:=Aside0.mk (below_step (by exact HB.out) hb);have n4_:=Aside0.mk (hbox);have n5_:=Aside0.mk ((by rw [hg];exact (keep_size (w:=w) (g:=g) (row:=none) (by exact HK.out)) : w.heap.size ≤ gb146));have n6_:=Aside0.mk ((Nat.le_trans HW0.out (by rw [hg];exact (keep_size (w:=w) (g:=g) (row:=none) (by exact HK.out)) : w.heap.size ≤ gb146) : w0.heap.size ≤ gb146));have n7_:=Aside0.mk ((by rw [hg];exact Nat.ne_of_lt (IsS61.lt (show IsS61 w0 _ g s0_0 t144 t145 from by exact HI0.out)) : g ≠ gb146));have n8_:=Aside0.mk ((by rw [hg];exact Nat.ne_of_gt (IsS61.lt (show IsS61 w0 _ g s0_0 t144 t145 from by exact HI0.out)) : gb146 ≠ g));clear HO_3;clear HI0;clear HK;clear HB;have HO_3:=n0_;have HI0:=n1_;have HK:=n2_;have HB:=n3_;have BK146:=n4_;have GW146:=n5_;have GE146:=n6_;have NB0_146:=n7_;have NB146_0:=n8_;clear n0_ n1_ n2_ n3_ n4_ n5_ n6_ n7_ n8_;clear hb hbox hg;have hnb16:=NB146_0.out;have hnc16:=NB0_146.out;have hcz17_0 : w15.cell? ⟨gb146,0,none⟩ = some (.int .i64 0):=(blk_cell BK146.out 0).trans rfl;have hcz17_1 : w15.cell? ⟨gb146,1,none⟩ = some (.string (⟨#[]⟩ : ByteArray)):=(blk_cell BK146.out 1).trans rfl;have hcz17_2 : w15.cell? ⟨gb146,2,none⟩ = some (.bool false):=(blk_cell BK146.out 2).trans rfl;have hcz17_3 : w15.cell? ⟨gb146,3,none⟩ = some (.int .i64 0):=(blk_cell BK146.out 3).trans rfl;have hfz17_0:=blk_frozen BK146.out 0;have hfz17_1:=blk_frozen BK146.out 1;have hfz17_2:=blk_frozen BK146.out 2;have hfz17_3:=blk_frozen BK146.out 3;obtain ⟨Ao18,co18,eo18,_⟩ := Kd.Q_slice HO_3.out;subst eo18) | ((with_reducible refine gate_callee (f:=35) rfl ?_);refine goesL_ (some 33) rfl rfl Try.func35 (by kernel_rfl) rfl #[.slice Ao18 x3_1.length co18, .int .i64 (x3_1.length : Int), .string t140] rfl (by (try simp only [List.map_toArray,List.map_cons,List.map_nil]);rfl) ?_;(with_reducible refine (spec_l20At.calls k1 _ _ x3_1 (x3_1.length : Int) t140 t147 _ ?side1 ?side2 A11.out).mono ?_);(case side1 => refine (Kd.Q_reads' (e:=52) (base:=w.heap.size) (ok:=fun k_ => (True ∧ k_ ≠ gb146)) (n:=x3_1.length) (c:=co18) ?_).2.2;exact (by exact (Kd.Q_mono (Kd.Q_far (p:=⟨gb146,3,none⟩) (Kd.Q_far (p:=⟨gb146,2,none⟩) (Kd.Q_far (p:=⟨gb146,1,none⟩) (Kd.Q_far (p:=⟨gb146,0,none⟩) (Kd.Q_mono HO_3.out (fun k_ hk => (⟨hk,hk.2⟩ : _ ∧ k_ ≠ gb146))) (fun _ hk => hk.2) (.int .i64 x4_1)) (fun _ hk => hk.2) (.string t140)) (fun _ hk => hk.2) (.bool true)) (fun _ hk => hk.2) (.int .i64 (wrap64 (1 + t143)))) (fun _ h_ => h_.1))));(case side2 => exact (Kd.Q_reads' HO_3.out).2.1);rintro e w' ⟨rfl,⟨nd,rfl⟩⟩;refine ⟨_,rfl, ?_⟩))
    (skip)
    go_cut [39] (fun v39 wc => ∃ (kq : Nat) (x39_11 : Bool) (x1001_11 : Int) (x1002_11 : Int),v39 = .bool x39_11 ∧ Aside0 (spec_l1Cur_file.j1 kq x3_1 x4_1 x5_1 t147 x39_11 s0_0 x1001_11 x1002_11 x4_1 t140 true (wrap64 (1 + t143)) = some (r1,r2,r3)) ∧ Aside0 (kq ≤ k1) ∧ Aside0 (Kd.Q k52 52 wc w.heap.size (fun k_ => k_ ≠ gb146) (.slice Ao18 x3_1.length co18) x3_1) ∧ Aside0 (wc.heap[gb146]? = some (.cells #[.int .i64 x4_1, .string t140, .bool true, .int .i64 (wrap64 (1 + t143))] 52 (0,0))) ∧ Aside0 (IsS61 w0 wc g s0_0 x1001_11 x1002_11) ∧ Aside0 (KeepBut w wc g none) ∧ Aside0 (Below w0.heap.size w0 wc))
    case first =>
     have H:=HC12.out
     clear HC12
     by_cases c19 : t147 = 0
     ·rw [if_pos c19] at H
      have c19b0 : (t147 == 0) = true:=beq_iff_eq.mpr c19
      have c19b1 : (t147 != 0) = false:=bne_eq_false_iff_eq.mpr c19
      clear c19
      (skip)
      have H':=Aside0.mk H
      clear H
      go_wp2
      go_meet
      case rel => exact ⟨_,(false),(t144),(t145),(by rfl),H',⟨by have:=HK1.out;omega⟩,⟨by (with_reducible repeat (apply Kd.Q_drewN));exact Kd.Q_mono (Kd.Q_far (p:=⟨gb146,3,none⟩) (Kd.Q_far (p:=⟨gb146,2,none⟩) (Kd.Q_far (p:=⟨gb146,1,none⟩) (Kd.Q_far (p:=⟨gb146,0,none⟩) (Kd.Q_mono HO_3.out (fun k_ hk => (⟨hk,hk.2⟩ : _ ∧ k_ ≠ gb146))) (fun _ hk => hk.2) (.int .i64 x4_1)) (fun _ hk => hk.2) (.string t140)) (fun _ hk => hk.2) (.bool true)) (fun _ hk => hk.2) (.int .i64 (wrap64 (1 + t143)))) (fun _ hk => hk.1.2)⟩,⟨by (with_reducible repeat (refine blk_drewN ?_ _));refine blk_put (cs:=#[.int .i64 x4_1, .string t140, .bool true, .int .i64 0]) ?_ 3 _ rfl;refine blk_put (cs:=#[.int .i64 x4_1, .string t140, .bool false, .int .i64 0]) ?_ 2 _ rfl;refine blk_put (cs:=#[.int .i64 x4_1, .string (⟨#[]⟩ : ByteArray), .bool false, .int .i64 0]) ?_ 1 _ rfl;refine blk_put (cs:=#[.int .i64 0, .string (⟨#[]⟩ : ByteArray), .bool false, .int .i64 0]) ?_ 0 _ rfl;exact BK146.out⟩,⟨by repeat ((with_reducible first | exact HI0.out | apply IsS61.drewN | refine IsS61.far ?_ NB0_146.out _))⟩,⟨by repeat ((with_reducible first | exact HK.out | apply keep_drewN | refine keep_far ?_ GW146.out _))⟩,⟨by repeat ((with_reducible first | exact HB.out | apply pw_below_drewN | refine below_set ?_ GE146.out))⟩⟩
     ·rw [if_neg c19] at H
      have c19b0 : (t147 == 0) = false:=beq_eq_false_iff_ne.mpr c19
      have c19b1 : (t147 != 0) = true:=bne_iff_ne.mpr c19
      (skip)
      replace H:=Option.bind_eq_some_iff.mp H
      obtain ⟨⟨t148,t149,t150⟩,A200,H⟩ := H
      replace H : (spec_l1Cur_file.j1 k1 x3_1 x4_1 x5_1 t147 t148 s0_0 t149 t150 x4_1 t140 true (wrap64 (1 + t143))) = some (r1,r2,r3):=H
      have A20:=Aside0.mk A200
      clear A200
      have H':=Aside0.mk H
      clear H
      go_wp2_with ((go_at_call 55;(with_reducible refine (spec_l1Cur_one.calls g s0_0 t144 t145 2 t148 t149 t150 w0 _ ?side1 ?side2 A20.out).mono ?_);(case side1 => repeat ((with_reducible first | exact HI0.out | apply IsS61.drewN | refine IsS61.far ?_ NB0_146.out _)));(case side2 => repeat ((with_reducible first | exact HB.out | apply pw_below_drewN | refine below_set ?_ GE146.out)));rintro e w21 ⟨rfl,hi,hb,hk⟩;have n0_:=Aside0.mk (Kd.Q_mono (Kd.Q_keep (IsS61.apartQ (show IsS61 w0 _ g s0_0 t144 t145 from by repeat ((with_reducible first | exact HI0.out | apply IsS61.drewN | refine IsS61.far ?_ NB0_146.out _))) (by (with_reducible repeat (apply Kd.Q_drewN));exact (Kd.Q_mono (Kd.Q_far (p:=⟨gb146,3,none⟩) (Kd.Q_far (p:=⟨gb146,2,none⟩) (Kd.Q_far (p:=⟨gb146,1,none⟩) (Kd.Q_far (p:=⟨gb146,0,none⟩) (Kd.Q_mono HO_3.out (fun k_ hk => (⟨hk,hk.2⟩ : _ ∧ k_ ≠ gb146))) (fun _ hk => hk.2) (.int .i64 x4_1)) (fun _ hk => hk.2) (.string t140)) (fun _ hk => hk.2) (.bool true)) (fun _ hk => hk.2) (.int .i64 (wrap64 (1 + t143)))) (fun _ h_ => h_.1))) (by decide)) hk (fun _ h => h.2)) (fun _ h => h.1));have n1_:=Aside0.mk (KeepBut.blk hk (g':=gb146) (o := .cells #[.int .i64 x4_1, .string t140, .bool true, .int .i64 (wrap64 (1 + t143))] 52 (0,0)) (by (with_reducible repeat (refine blk_drewN ?_ _));refine blk_put (cs:=#[.int .i64 x4_1, .string t140, .bool true, .int .i64 0]) ?_ 3 _ rfl;refine blk_put (cs:=#[.int .i64 x4_1, .string t140, .bool false, .int .i64 0]) ?_ 2 _ rfl;refine blk_put (cs:=#[.int .i64 x4_1, .string (⟨#[]⟩ : ByteArray), .bool false, .int .i64 0]) ?_ 1 _ rfl;refine blk_put (cs:=#[.int .i64 0, .string (⟨#[]⟩ : ByteArray), .bool false, .int .i64 0]) ?_ 0 _ rfl;exact BK146.out) NB146_0.out (by simp));have n2_:=Aside0.mk (KeepBut.trans (by repeat ((with_reducible first | exact HK.out | apply keep_drewN | refine keep_far ?_ GW146.out _))) hk (.inl rfl));have n3_:=Aside0.mk (hb);have n4_:=Aside0.mk (hi);clear HO_3;clear BK146;clear HK;clear HB;clear HI0;have HO_3:=n0_;have BK146:=n1_;have HK:=n2_;have HB:=n3_;have HI0:=n4_;clear n0_ n1_ n2_ n3_ n4_;(try clear hb);(try clear hk);(try clear hi)))
      go_meet
      case rel => exact ⟨_,(t148),(t149),(t150),(by rfl),H',⟨by have:=HK1.out;omega⟩,⟨by exact Kd.Q_mono HO_3.out (fun _ hk => hk.2)⟩,⟨by exact BK146.out⟩,⟨by exact HI0.out⟩,⟨by exact HK.out⟩,⟨by exact HB.out⟩⟩
    case rest =>
     clear HC12
     try clear c1
     try clear p2
     try clear c3
     try clear c4
     try clear c5
     try clear p6
     try clear c8
     try clear c8b0
     try clear c16
     try clear c19
     try clear c19b0
     try clear c19b1
     try clear hcz17_0
     try clear hcz17_1
     try clear hcz17_2
     try clear hcz17_3
     try clear hfz17_0
     try clear hfz17_1
     try clear hfz17_2
     try clear hfz17_3
     try clear p2
     obtain ⟨kq,x39_11,x1001_11,x1002_11,rfl,HA,HJ11,HO_3,BK146,HI0,HK,HB⟩ := hcut
     cases kq with
     | zero => exact absurd HA.out (by simp [spec_l1Cur_file.j1])
     | succ kj11 =>
      have H:=HA.out
      clear HA
      simp only [spec_l1Cur_file.j1] at H
      by_cases c22 : x39_11 = true
      ·subst c22
       have H1 : (if (Go.bits .and .i64 (wrap64 (1 + t143)) t147) > 0 then (if x3_1.length < 3518437208883 then ((spec_l1Cur_among.f s0_0 x1001_11 x1002_11 (([0,1,5,24] : List Int))).bind fun bt157 => (spec_l1Cur_file.l0 kj11 (x3_1 ++ [(⟨x4_1,t140,false,Go.bits .and .i64 (wrap64 (1 + t143)) t147⟩ : S52)]) (wrap64 (x4_1 + bt157.1)) (wrap64 (x5_1 - 1)) s0_0 bt157.2.1 bt157.2.2)) else (none)) else ((spec_l1Cur_among.f s0_0 x1001_11 x1002_11 (([0,1,5,24] : List Int))).bind fun bt163 => (spec_l1Cur_file.l0 kj11 x3_1 (wrap64 (x4_1 + bt163.1)) (wrap64 (x5_1 - 1)) s0_0 bt163.2.1 bt163.2.2))) = some (r1,r2,r3):=by rw [if_pos rfl] at H;exact H
       clear H
       have H:=H1
       clear H1
       by_cases c23 : (Go.bits .and .i64 (wrap64 (1 + t143)) t147) > 0
       ·rw [if_pos c23] at H
        have c23b0 : decide (0 < (Go.bits .and .i64 (wrap64 (1 + t143)) t147)) = true:=decide_eq_true c23
        clear c23
        by_cases c24 : x3_1.length < 3518437208883
        ·rw [if_pos c24] at H
         have LMc24:=Aside0.mk c24
         clear c24
         obtain ⟨y151,hy151⟩ : ∃ y_ : List (S52),y_ = (x3_1 ++ [(⟨x4_1,t140,false,Go.bits .and .i64 (wrap64 (1 + t143)) t147⟩ : S52)]):=⟨_,rfl⟩
         replace H : ((spec_l1Cur_among.f s0_0 x1001_11 x1002_11 (([0,1,5,24] : List Int))).bind fun bt157 => (spec_l1Cur_file.l0 kj11 y151 (wrap64 (x4_1 + bt157.1)) (wrap64 (x5_1 - 1)) s0_0 bt157.2.1 bt157.2.2)) = some (r1,r2,r3):=by (rw [hy151];with_reducible exact H)
         have Ny151:=Aside0.mk hy151
         clear hy151
         obtain ⟨y154,hy154⟩ : ∃ y_ : List Int,y_ = (([0,1,5,24] : List Int)):=⟨_,rfl⟩
         replace H : ((spec_l1Cur_among.f s0_0 x1001_11 x1002_11 y154).bind fun bt157 => (spec_l1Cur_file.l0 kj11 y151 (wrap64 (x4_1 + bt157.1)) (wrap64 (x5_1 - 1)) s0_0 bt157.2.1 bt157.2.2)) = some (r1,r2,r3):=by (rw [hy154];with_reducible exact H)
         have Ny154:=Aside0.mk hy154
         clear hy154
         replace H:=Option.bind_eq_some_iff.mp H
         obtain ⟨⟨t157,t158,t159⟩,A250,H⟩ := H
         replace H : (spec_l1Cur_file.l0 kj11 y151 (wrap64 (x4_1 + t157)) (wrap64 (x5_1 - 1)) s0_0 t158 t159) = some (r1,r2,r3):=H
         have A25:=Aside0.mk A250
         clear A250
         have H':=Aside0.mk H
         clear H
         have hnb26:=NB146_0.out
         have hnc26:=NB0_146.out
         have hcz27_0 : wc.cell? ⟨gb146,0,none⟩ = some (.int .i64 x4_1):=(blk_cell BK146.out 0).trans rfl
         have hcz27_1 : wc.cell? ⟨gb146,1,none⟩ = some (.string t140):=(blk_cell BK146.out 1).trans rfl
         have hcz27_2 : wc.cell? ⟨gb146,2,none⟩ = some (.bool true):=(blk_cell BK146.out 2).trans rfl
         have hcz27_3 : wc.cell? ⟨gb146,3,none⟩ = some (.int .i64 (wrap64 (1 + t143))):=(blk_cell BK146.out 3).trans rfl
         have hfz27_0:=blk_frozen BK146.out 0
         have hfz27_1:=blk_frozen BK146.out 1
         have hfz27_2:=blk_frozen BK146.out 2
         have hfz27_3:=blk_frozen BK146.out 3
         go_wp2_with (first | ((with_reducible refine gate_builtin (b := .append) (xs:=#[.tmp 54, .tmp 56]) rfl ?_);at_builtin;refine Kd.Q_append k52 w.heap.size rfl (.tmp 54) (.tmp 56) 24 52 (.agg #[(.int .i64 0),(.string ⟨#[]⟩),(.bool false),(.int .i64 0)]) 40 rfl Try.underlying24 info52 rfl (by decide) (by omega) (.slice Ao18 x3_1.length co18) x3_1 (⟨x4_1,t140,false,Go.bits .and .i64 (wrap64 (1 + t143)) t147⟩ : S52) [.int .i64 x4_1, .string t140, .bool false, .int .i64 (Go.bits .and .i64 (wrap64 (1 + t143)) t147)] (fun k_ => k_ ≠ gb146) (fun _ => False) rfl (by (go_simp;done)) ?aP (fun _ hk => hk.elim) ?aF ?aO (Below.refl _ _) ?aS ?aL ?_;(case aP => exact k52_mkM _ _ _ (⟨x4_1,t140,false,Go.bits .and .i64 (wrap64 (1 + t143)) t147⟩ : S52));(case aF => exact (fun k_ hk => Kd.freshB (g:=gb146) (o := .cells #[.int .i64 x4_1, .string t140, .bool false, .int .i64 (Go.bits .and .i64 (wrap64 (1 + t143)) t147)] 52 (0,0)) (by refine blk_put (cs:=#[.int .i64 x4_1, .string t140, .bool false, .int .i64 (wrap64 (1 + t143))]) ?_ 3 _ rfl;refine blk_put (cs:=#[.int .i64 x4_1, .string t140, .bool true, .int .i64 (wrap64 (1 + t143))]) ?_ 2 _ rfl;exact BK146.out) k_ hk));(case aO => exact (by exact Kd.Q_mono (Kd.Q_far (p:=⟨gb146,3,none⟩) (Kd.Q_far (p:=⟨gb146,2,none⟩) (Kd.Q_mono HO_3.out (fun k_ hk => (⟨hk,hk⟩ : _ ∧ k_ ≠ gb146))) (fun _ hk => hk.2) (.bool false)) (fun _ hk => hk.2) (.int .i64 (Go.bits .and .i64 (wrap64 (1 + t143)) t147))) (fun _ hk => hk.1)));(case aS => exact (keep_size (w:=w) (g:=g) (row:=none) (by repeat ((with_reducible first | exact HK.out | refine keep_far ?_ GW146.out _)))));(case aL => have:=LMc24.out;omega);intro v152 w28 ho hb hg hat;rw [← Ny151.out] at ho;have n0_:=Aside0.mk (blk_grown (g:=gb146) (o := .cells #[.int .i64 x4_1, .string t140, .bool false, .int .i64 (Go.bits .and .i64 (wrap64 (1 + t143)) t147)] 52 (0,0)) (by refine blk_put (cs:=#[.int .i64 x4_1, .string t140, .bool false, .int .i64 (wrap64 (1 + t143))]) ?_ 3 _ rfl;refine blk_put (cs:=#[.int .i64 x4_1, .string t140, .bool true, .int .i64 (wrap64 (1 + t143))]) ?_ 2 _ rfl;exact BK146.out) hg (Kd.Q_away HO_3.out (fun _ hk => hk)));have n1_:=Aside0.mk (IsS61.grownX3 HI0.out (by repeat ((with_reducible first | exact HI0.out | refine IsS61.far ?_ NB0_146.out _))) hg (IsS61.own_neQ HI0.out HO_3.out (by decide)));have n2_:=Aside0.mk (below_weaken (by repeat ((with_reducible first | exact HB.out | refine below_set ?_ GE146.out))) HL.out hb);have n3_:=Aside0.mk (KeepBut.trans (by repeat ((with_reducible first | exact HK.out | refine keep_far ?_ GW146.out _))) (KeepBut.of_grown hg g) (Kd.Q_base2 HO_3.out));have n4_:=Aside0.mk (ho);clear BK146;clear HI0;clear HB;clear HK;clear HO_3;have BK146:=n0_;have HI0:=n1_;have HB:=n2_;have HK:=n3_;have HO153:=n4_;clear n0_ n1_ n2_ n3_ n4_;clear ho hb hg hat) | ((with_reducible refine gate_dst (N:=60) rfl ?_);refine Kd.R_lit (Kd.int .i64) _ 3 ?hg (N:=60) ?hd (xs:=([0,1,5,24] : List Int)) (inner := [.int .i64 0, .int .i64 1, .int .i64 5, .int .i64 24]) (ok:=fun _ => True) (okp:=fun _ => True) ?hr ?hp (fun _ hk => hk) trivial (Below.refl _ _) (Nat.le_refl _) (by simp) ?_;(case hd => rfl);(case hg => rfl);(case hr => (go_simp;done));(case hp => exact (Reps.one (show Kd.M (Kd.int .i64) _ _ _ 0 [.int .i64 0] from rfl) (Reps.one (show Kd.M (Kd.int .i64) _ _ _ 1 [.int .i64 1] from rfl) (Reps.one (show Kd.M (Kd.int .i64) _ _ _ 5 [.int .i64 5] from rfl) (Reps.one (show Kd.M (Kd.int .i64) _ _ _ 24 [.int .i64 24] from rfl) (Reps.none _ _))))));intro v155 w29 ho30 hb hg_ hnew_;clear hg_ hnew_;(rw [← Ny154.out] at ho30);have n0_:=Aside0.mk (Kd.Q_below (by exact HO153.out) hb);have n1_:=Aside0.mk (Kd.R_lower ho30 (keep_size (w:=w) (g:=g) (row:=none) (by exact HK.out)));have n2_:=Aside0.mk (blk_below (g:=gb146) (o := .cells #[.int .i64 x4_1, .string t140, .bool false, .int .i64 (Go.bits .and .i64 (wrap64 (1 + t143)) t147)] 52 (0,0)) (by exact BK146.out) hb);have n3_:=Aside0.mk (IsS61.below (by exact HI0.out) hb);have n4_:=Aside0.mk (KeepBut.trans (by exact HK.out) (KeepBut.of_below hb g none) (.inl rfl));have n5_:=Aside0.mk (below_step (by exact HB.out) hb);clear HO153;clear BK146;clear HI0;clear HK;clear HB;have HO153:=n0_;have HO156:=n1_;have BK146:=n2_;have HI0:=n3_;have HK:=n4_;have HB:=n5_;clear n0_ n1_ n2_ n3_ n4_ n5_;clear hb ho30;obtain ⟨Ao31,co31,eo31⟩ := Kd.R_slice HO156.out;subst eo31) | ((with_reducible refine gate_callee (f:=56) rfl ?_);refine goesL_ (some 61) rfl rfl Try.func56 (by kernel_rfl) rfl #[.pointer (some ⟨g,0,none⟩), .slice Ao31 y154.length co31] rfl (by (try simp only [List.map_toArray,List.map_cons,List.map_nil]);rfl) ?_;(with_reducible refine (spec_l1Cur_among.calls g s0_0 x1001_11 x1002_11 _ _ y154 t157 t158 t159 w0 _ ?side1 ?side2 ?side3 ?side4 ?side5 A25.out).mono ?_);(case side1 => exact HI0.out);(case side2 => exact HB.out);(case side3 => repeat (exact (Kd.R_reads' HO156.out).2.2));(case side4 => exact (Kd.R_reads' HO156.out).2.1);(case side5 => exact far_slice (IsS61.own_ne HI0.out HO156.out (by decide)));rintro e w32 ⟨rfl,hi,hb,hk⟩;refine ⟨_,rfl, ?_⟩;have n0_:=Aside0.mk (KeepBut.blk hk (g':=gb146) (o := .cells #[.int .i64 x4_1, .string t140, .bool false, .int .i64 (Go.bits .and .i64 (wrap64 (1 + t143)) t147)] 52 (0,0)) (by exact BK146.out) NB146_0.out (by simp));have n1_:=Aside0.mk (Kd.Q_mono (Kd.Q_keep (IsS61.apartQ (show IsS61 w0 _ g s0_0 x1001_11 x1002_11 from by exact HI0.out) (by exact HO153.out) (by decide)) hk (fun _ h => h.2)) (fun _ h => h.1));have n2_:=Aside0.mk (Kd.R_mono (Kd.R_keep (IsS61.apart (show IsS61 w0 _ g s0_0 x1001_11 x1002_11 from by exact HI0.out) (by exact HO156.out) (by decide)) hk (fun _ h => h.2)) (fun _ h => h.1));have n3_:=Aside0.mk (KeepBut.trans (by exact HK.out) hk (.inl rfl));have n4_:=Aside0.mk (hb);have n5_:=Aside0.mk (hi);clear BK146;clear HO153;clear HO156;clear HK;clear HB;clear HI0;have BK146:=n0_;have HO153:=n1_;have HO156:=n2_;have HK:=n3_;have HB:=n4_;have HI0:=n5_;clear n0_ n1_ n2_ n3_ n4_ n5_;(try clear hb);(try clear hk);(try clear hi)))
         go_roundg kj11
         case measure => have:=HK1.out;have:=HJ11.out;omega
         case rel => exact ⟨(y151),(wrap64 (x4_1 + t157)),(wrap64 (x5_1 - 1)),(t158),(t159),(by rfl),(by rfl),H',⟨by have:=HK1.out;have:=HJ11.out;omega⟩,⟨by exact Kd.Q_mono HO153.out (fun _ hk => trivial)⟩,⟨by exact HI0.out⟩,⟨by exact HK.out⟩,⟨by exact HB.out⟩⟩
        ·rw [if_neg c24] at H
         exact absurd H (by simp)
       ·rw [if_neg c23] at H
        have c23b0 : decide (0 < (Go.bits .and .i64 (wrap64 (1 + t143)) t147)) = false:=decide_eq_false c23
        clear c23
        obtain ⟨y160,hy160⟩ : ∃ y_ : List Int,y_ = (([0,1,5,24] : List Int)):=⟨_,rfl⟩
        replace H : ((spec_l1Cur_among.f s0_0 x1001_11 x1002_11 y160).bind fun bt163 => (spec_l1Cur_file.l0 kj11 x3_1 (wrap64 (x4_1 + bt163.1)) (wrap64 (x5_1 - 1)) s0_0 bt163.2.1 bt163.2.2)) = some (r1,r2,r3):=by (rw [hy160];with_reducible exact H)
        have Ny160:=Aside0.mk hy160
        clear hy160
        replace H:=Option.bind_eq_some_iff.mp H
        obtain ⟨⟨t163,t164,t165⟩,A330,H⟩ := H
        replace H : (spec_l1Cur_file.l0 kj11 x3_1 (wrap64 (x4_1 + t163)) (wrap64 (x5_1 - 1)) s0_0 t164 t165) = some (r1,r2,r3):=H
        have A33:=Aside0.mk A330
        clear A330
        have H':=Aside0.mk H
        clear H
        have hnb34:=NB146_0.out
        have hnc34:=NB0_146.out
        have hcz35_0 : wc.cell? ⟨gb146,0,none⟩ = some (.int .i64 x4_1):=(blk_cell BK146.out 0).trans rfl
        have hcz35_1 : wc.cell? ⟨gb146,1,none⟩ = some (.string t140):=(blk_cell BK146.out 1).trans rfl
        have hcz35_2 : wc.cell? ⟨gb146,2,none⟩ = some (.bool true):=(blk_cell BK146.out 2).trans rfl
        have hcz35_3 : wc.cell? ⟨gb146,3,none⟩ = some (.int .i64 (wrap64 (1 + t143))):=(blk_cell BK146.out 3).trans rfl
        have hfz35_0:=blk_frozen BK146.out 0
        have hfz35_1:=blk_frozen BK146.out 1
        have hfz35_2:=blk_frozen BK146.out 2
        have hfz35_3:=blk_frozen BK146.out 3
        go_wp2_with (first | ((with_reducible refine gate_dst (N:=60) rfl ?_);refine Kd.R_lit (Kd.int .i64) _ 3 ?hg (N:=60) ?hd (xs:=([0,1,5,24] : List Int)) (inner := [.int .i64 0, .int .i64 1, .int .i64 5, .int .i64 24]) (ok:=fun _ => True) (okp:=fun _ => True) ?hr ?hp (fun _ hk => hk) trivial (Below.refl _ _) (Nat.le_refl _) (by simp) ?_;(case hd => rfl);(case hg => rfl);(case hr => (go_simp;done));(case hp => exact (Reps.one (show Kd.M (Kd.int .i64) _ _ _ 0 [.int .i64 0] from rfl) (Reps.one (show Kd.M (Kd.int .i64) _ _ _ 1 [.int .i64 1] from rfl) (Reps.one (show Kd.M (Kd.int .i64) _ _ _ 5 [.int .i64 5] from rfl) (Reps.one (show Kd.M (Kd.int .i64) _ _ _ 24 [.int .i64 24] from rfl) (Reps.none _ _))))));intro v161 w36 ho37 hb hg_ hnew_;clear hg_ hnew_;(rw [← Ny160.out] at ho37);have n0_:=Aside0.mk (Kd.Q_below (by exact (Kd.Q_mono (Kd.Q_far (p:=⟨gb146,3,none⟩) (Kd.Q_far (p:=⟨gb146,2,none⟩) (Kd.Q_mono HO_3.out (fun k_ hk => (⟨hk,hk⟩ : _ ∧ k_ ≠ gb146))) (fun _ hk => hk.2) (.bool false)) (fun _ hk => hk.2) (.int .i64 (Go.bits .and .i64 (wrap64 (1 + t143)) t147))) (fun _ h_ => h_.1))) hb);have n1_:=Aside0.mk (Kd.R_lower ho37 (keep_size (w:=w) (g:=g) (row:=none) (by repeat ((with_reducible first | exact HK.out | refine keep_far ?_ GW146.out _)))));have n2_:=Aside0.mk (blk_below (g:=gb146) (o := .cells #[.int .i64 x4_1, .string t140, .bool false, .int .i64 (Go.bits .and .i64 (wrap64 (1 + t143)) t147)] 52 (0,0)) (by refine blk_put (cs:=#[.int .i64 x4_1, .string t140, .bool false, .int .i64 (wrap64 (1 + t143))]) ?_ 3 _ rfl;refine blk_put (cs:=#[.int .i64 x4_1, .string t140, .bool true, .int .i64 (wrap64 (1 + t143))]) ?_ 2 _ rfl;exact BK146.out) hb);have n3_:=Aside0.mk (IsS61.below (show IsS61 w0 ((wc.setCell ⟨gb146,2,none⟩ (.bool false)).setCell ⟨gb146,3,none⟩ (.int .i64 (Go.bits .and .i64 (wrap64 (1 + t143)) t147))) g s0_0 x1001_11 x1002_11 from by repeat ((with_reducible first | exact HI0.out | refine IsS61.far ?_ NB0_146.out _))) hb);have n4_:=Aside0.mk (KeepBut.trans (by repeat ((with_reducible first | exact HK.out | refine keep_far ?_ GW146.out _))) (KeepBut.of_below hb g none) (.inl rfl));have n5_:=Aside0.mk (below_step (by repeat ((with_reducible first | exact HB.out | refine below_set ?_ GE146.out))) hb);clear HO_3;clear BK146;clear HI0;clear HK;clear HB;have HO_3:=n0_;have HO162:=n1_;have BK146:=n2_;have HI0:=n3_;have HK:=n4_;have HB:=n5_;clear n0_ n1_ n2_ n3_ n4_ n5_;clear hb ho37;obtain ⟨Ao38,co38,eo38⟩ := Kd.R_slice HO162.out;subst eo38) | ((with_reducible refine gate_callee (f:=56) rfl ?_);refine goesL_ (some 61) rfl rfl Try.func56 (by kernel_rfl) rfl #[.pointer (some ⟨g,0,none⟩), .slice Ao38 y160.length co38] rfl (by (try simp only [List.map_toArray,List.map_cons,List.map_nil]);rfl) ?_;(with_reducible refine (spec_l1Cur_among.calls g s0_0 x1001_11 x1002_11 _ _ y160 t163 t164 t165 w0 _ ?side1 ?side2 ?side3 ?side4 ?side5 A33.out).mono ?_);(case side1 => exact HI0.out);(case side2 => exact HB.out);(case side3 => repeat (exact (Kd.R_reads' HO162.out).2.2));(case side4 => exact (Kd.R_reads' HO162.out).2.1);(case side5 => exact far_slice (IsS61.own_ne HI0.out HO162.out (by decide)));rintro e w39 ⟨rfl,hi,hb,hk⟩;refine ⟨_,rfl, ?_⟩;have n0_:=Aside0.mk (Kd.Q_mono (Kd.Q_keep (IsS61.apartQ (show IsS61 w0 _ g s0_0 x1001_11 x1002_11 from by exact HI0.out) (by exact HO_3.out) (by decide)) hk (fun _ h => h.2)) (fun _ h => h.1));have n1_:=Aside0.mk (KeepBut.blk hk (g':=gb146) (o := .cells #[.int .i64 x4_1, .string t140, .bool false, .int .i64 (Go.bits .and .i64 (wrap64 (1 + t143)) t147)] 52 (0,0)) (by exact BK146.out) NB146_0.out (by simp));have n2_:=Aside0.mk (Kd.R_mono (Kd.R_keep (IsS61.apart (show IsS61 w0 _ g s0_0 x1001_11 x1002_11 from by exact HI0.out) (by exact HO162.out) (by decide)) hk (fun _ h => h.2)) (fun _ h => h.1));have n3_:=Aside0.mk (KeepBut.trans (by exact HK.out) hk (.inl rfl));have n4_:=Aside0.mk (hb);have n5_:=Aside0.mk (hi);clear HO_3;clear BK146;clear HO162;clear HK;clear HB;clear HI0;have HO_3:=n0_;have BK146:=n1_;have HO162:=n2_;have HK:=n3_;have HB:=n4_;have HI0:=n5_;clear n0_ n1_ n2_ n3_ n4_ n5_;(try clear hb);(try clear hk);(try clear hi)))
        go_roundg kj11
        case measure => have:=HK1.out;have:=HJ11.out;omega
        case rel => exact ⟨(x3_1),(wrap64 (x4_1 + t163)),(wrap64 (x5_1 - 1)),(t164),(t165),(by rfl),(by rfl),H',⟨by have:=HK1.out;have:=HJ11.out;omega⟩,⟨by exact Kd.Q_mono HO_3.out (fun _ hk => trivial)⟩,⟨by exact HI0.out⟩,⟨by exact HK.out⟩,⟨by exact HB.out⟩⟩
      ·replace c22:=Bool.eq_false_iff.mpr c22
       subst c22
       have H1 : (if (Go.bits .andNot .i64 (wrap64 (1 + t143)) t147) > 0 then (if x3_1.length < 3518437208883 then ((spec_l1Cur_among.f s0_0 x1001_11 x1002_11 (([0,1,5,24] : List Int))).bind fun bt172 => (spec_l1Cur_file.l0 kj11 (x3_1 ++ [(⟨x4_1,t140,true,Go.bits .andNot .i64 (wrap64 (1 + t143)) t147⟩ : S52)]) (wrap64 (x4_1 + bt172.1)) (wrap64 (x5_1 - 1)) s0_0 bt172.2.1 bt172.2.2)) else (none)) else ((spec_l1Cur_among.f s0_0 x1001_11 x1002_11 (([0,1,5,24] : List Int))).bind fun bt178 => (spec_l1Cur_file.l0 kj11 x3_1 (wrap64 (x4_1 + bt178.1)) (wrap64 (x5_1 - 1)) s0_0 bt178.2.1 bt178.2.2))) = some (r1,r2,r3):=by rw [if_neg (show ¬ (false = true) by decide)] at H;exact H
       clear H
       have H:=H1
       clear H1
       by_cases c40 : (Go.bits .andNot .i64 (wrap64 (1 + t143)) t147) > 0
       ·rw [if_pos c40] at H
        have c40b0 : decide (0 < (Go.bits .andNot .i64 (wrap64 (1 + t143)) t147)) = true:=decide_eq_true c40
        clear c40
        by_cases c41 : x3_1.length < 3518437208883
        ·rw [if_pos c41] at H
         have LMc41:=Aside0.mk c41
         clear c41
         obtain ⟨y166,hy166⟩ : ∃ y_ : List (S52),y_ = (x3_1 ++ [(⟨x4_1,t140,true,Go.bits .andNot .i64 (wrap64 (1 + t143)) t147⟩ : S52)]):=⟨_,rfl⟩
         replace H : ((spec_l1Cur_among.f s0_0 x1001_11 x1002_11 (([0,1,5,24] : List Int))).bind fun bt172 => (spec_l1Cur_file.l0 kj11 y166 (wrap64 (x4_1 + bt172.1)) (wrap64 (x5_1 - 1)) s0_0 bt172.2.1 bt172.2.2)) = some (r1,r2,r3):=by (rw [hy166];with_reducible exact H)
         have Ny166:=Aside0.mk hy166
         clear hy166
         obtain ⟨y169,hy169⟩ : ∃ y_ : List Int,y_ = (([0,1,5,24] : List Int)):=⟨_,rfl⟩
         replace H : ((spec_l1Cur_among.f s0_0 x1001_11 x1002_11 y169).bind fun bt172 => (spec_l1Cur_file.l0 kj11 y166 (wrap64 (x4_1 + bt172.1)) (wrap64 (x5_1 - 1)) s0_0 bt172.2.1 bt172.2.2)) = some (r1,r2,r3):=by (rw [hy169];with_reducible exact H)
         have Ny169:=Aside0.mk hy169
         clear hy169
         replace H:=Option.bind_eq_some_iff.mp H
         obtain ⟨⟨t172,t173,t174⟩,A420,H⟩ := H
         replace H : (spec_l1Cur_file.l0 kj11 y166 (wrap64 (x4_1 + t172)) (wrap64 (x5_1 - 1)) s0_0 t173 t174) = some (r1,r2,r3):=H
         have A42:=Aside0.mk A420
         clear A420
         have H':=Aside0.mk H
         clear H
         have hnb43:=NB146_0.out
         have hnc43:=NB0_146.out
         have hcz44_0 : wc.cell? ⟨gb146,0,none⟩ = some (.int .i64 x4_1):=(blk_cell BK146.out 0).trans rfl
         have hcz44_1 : wc.cell? ⟨gb146,1,none⟩ = some (.string t140):=(blk_cell BK146.out 1).trans rfl
         have hcz44_2 : wc.cell? ⟨gb146,2,none⟩ = some (.bool true):=(blk_cell BK146.out 2).trans rfl
         have hcz44_3 : wc.cell? ⟨gb146,3,none⟩ = some (.int .i64 (wrap64 (1 + t143))):=(blk_cell BK146.out 3).trans rfl
         have hfz44_0:=blk_frozen BK146.out 0
         have hfz44_1:=blk_frozen BK146.out 1
         have hfz44_2:=blk_frozen BK146.out 2
         have hfz44_3:=blk_frozen BK146.out 3
         go_wp2_with (first | ((with_reducible refine gate_builtin (b := .append) (xs:=#[.tmp 54, .tmp 56]) rfl ?_);at_builtin;refine Kd.Q_append k52 w.heap.size rfl (.tmp 54) (.tmp 56) 24 52 (.agg #[(.int .i64 0),(.string ⟨#[]⟩),(.bool false),(.int .i64 0)]) 40 rfl Try.underlying24 info52 rfl (by decide) (by omega) (.slice Ao18 x3_1.length co18) x3_1 (⟨x4_1,t140,true,Go.bits .andNot .i64 (wrap64 (1 + t143)) t147⟩ : S52) [.int .i64 x4_1, .string t140, .bool true, .int .i64 (Go.bits .andNot .i64 (wrap64 (1 + t143)) t147)] (fun k_ => k_ ≠ gb146) (fun _ => False) rfl (by (go_simp;done)) ?aP (fun _ hk => hk.elim) ?aF ?aO (Below.refl _ _) ?aS ?aL ?_;(case aP => exact k52_mkM _ _ _ (⟨x4_1,t140,true,Go.bits .andNot .i64 (wrap64 (1 + t143)) t147⟩ : S52));(case aF => exact (fun k_ hk => Kd.freshB (g:=gb146) (o := .cells #[.int .i64 x4_1, .string t140, .bool true, .int .i64 (Go.bits .andNot .i64 (wrap64 (1 + t143)) t147)] 52 (0,0)) (by refine blk_put (cs:=#[.int .i64 x4_1, .string t140, .bool true, .int .i64 (wrap64 (1 + t143))]) ?_ 3 _ rfl;exact BK146.out) k_ hk));(case aO => exact (by exact Kd.Q_mono (Kd.Q_far (p:=⟨gb146,3,none⟩) (Kd.Q_mono HO_3.out (fun k_ hk => (⟨hk,hk⟩ : _ ∧ k_ ≠ gb146))) (fun _ hk => hk.2) (.int .i64 (Go.bits .andNot .i64 (wrap64 (1 + t143)) t147))) (fun _ hk => hk.1)));(case aS => exact (keep_size (w:=w) (g:=g) (row:=none) (by repeat ((with_reducible first | exact HK.out | refine keep_far ?_ GW146.out _)))));(case aL => have:=LMc41.out;omega);intro v167 w45 ho hb hg hat;rw [← Ny166.out] at ho;have n0_:=Aside0.mk (blk_grown (g:=gb146) (o := .cells #[.int .i64 x4_1, .string t140, .bool true, .int .i64 (Go.bits .andNot .i64 (wrap64 (1 + t143)) t147)] 52 (0,0)) (by refine blk_put (cs:=#[.int .i64 x4_1, .string t140, .bool true, .int .i64 (wrap64 (1 + t143))]) ?_ 3 _ rfl;exact BK146.out) hg (Kd.Q_away HO_3.out (fun _ hk => hk)));have n1_:=Aside0.mk (IsS61.grownX3 HI0.out (by repeat ((with_reducible first | exact HI0.out | refine IsS61.far ?_ NB0_146.out _))) hg (IsS61.own_neQ HI0.out HO_3.out (by decide)));have n2_:=Aside0.mk (below_weaken (by repeat ((with_reducible first | exact HB.out | refine below_set ?_ GE146.out))) HL.out hb);have n3_:=Aside0.mk (KeepBut.trans (by repeat ((with_reducible first | exact HK.out | refine keep_far ?_ GW146.out _))) (KeepBut.of_grown hg g) (Kd.Q_base2 HO_3.out));have n4_:=Aside0.mk (ho);clear BK146;clear HI0;clear HB;clear HK;clear HO_3;have BK146:=n0_;have HI0:=n1_;have HB:=n2_;have HK:=n3_;have HO168:=n4_;clear n0_ n1_ n2_ n3_ n4_;clear ho hb hg hat) | ((with_reducible refine gate_dst (N:=60) rfl ?_);refine Kd.R_lit (Kd.int .i64) _ 3 ?hg (N:=60) ?hd (xs:=([0,1,5,24] : List Int)) (inner := [.int .i64 0, .int .i64 1, .int .i64 5, .int .i64 24]) (ok:=fun _ => True) (okp:=fun _ => True) ?hr ?hp (fun _ hk => hk) trivial (Below.refl _ _) (Nat.le_refl _) (by simp) ?_;(case hd => rfl);(case hg => rfl);(case hr => (go_simp;done));(case hp => exact (Reps.one (show Kd.M (Kd.int .i64) _ _ _ 0 [.int .i64 0] from rfl) (Reps.one (show Kd.M (Kd.int .i64) _ _ _ 1 [.int .i64 1] from rfl) (Reps.one (show Kd.M (Kd.int .i64) _ _ _ 5 [.int .i64 5] from rfl) (Reps.one (show Kd.M (Kd.int .i64) _ _ _ 24 [.int .i64 24] from rfl) (Reps.none _ _))))));intro v170 w46 ho47 hb hg_ hnew_;clear hg_ hnew_;(rw [← Ny169.out] at ho47);have n0_:=Aside0.mk (Kd.Q_below (by exact HO168.out) hb);have n1_:=Aside0.mk (Kd.R_lower ho47 (keep_size (w:=w) (g:=g) (row:=none) (by exact HK.out)));have n2_:=Aside0.mk (blk_below (g:=gb146) (o := .cells #[.int .i64 x4_1, .string t140, .bool true, .int .i64 (Go.bits .andNot .i64 (wrap64 (1 + t143)) t147)] 52 (0,0)) (by exact BK146.out) hb);have n3_:=Aside0.mk (IsS61.below (by exact HI0.out) hb);have n4_:=Aside0.mk (KeepBut.trans (by exact HK.out) (KeepBut.of_below hb g none) (.inl rfl));have n5_:=Aside0.mk (below_step (by exact HB.out) hb);clear HO168;clear BK146;clear HI0;clear HK;clear HB;have HO168:=n0_;have HO171:=n1_;have BK146:=n2_;have HI0:=n3_;have HK:=n4_;have HB:=n5_;clear n0_ n1_ n2_ n3_ n4_ n5_;clear hb ho47;obtain ⟨Ao48,co48,eo48⟩ := Kd.R_slice HO171.out;subst eo48) | ((with_reducible refine gate_callee (f:=56) rfl ?_);refine goesL_ (some 61) rfl rfl Try.func56 (by kernel_rfl) rfl #[.pointer (some ⟨g,0,none⟩), .slice Ao48 y169.length co48] rfl (by (try simp only [List.map_toArray,List.map_cons,List.map_nil]);rfl) ?_;(with_reducible refine (spec_l1Cur_among.calls g s0_0 x1001_11 x1002_11 _ _ y169 t172 t173 t174 w0 _ ?side1 ?side2 ?side3 ?side4 ?side5 A42.out).mono ?_);(case side1 => exact HI0.out);(case side2 => exact HB.out);(case side3 => repeat (exact (Kd.R_reads' HO171.out).2.2));(case side4 => exact (Kd.R_reads' HO171.out).2.1);(case side5 => exact far_slice (IsS61.own_ne HI0.out HO171.out (by decide)));rintro e w49 ⟨rfl,hi,hb,hk⟩;refine ⟨_,rfl, ?_⟩;have n0_:=Aside0.mk (KeepBut.blk hk (g':=gb146) (o := .cells #[.int .i64 x4_1, .string t140, .bool true, .int .i64 (Go.bits .andNot .i64 (wrap64 (1 + t143)) t147)] 52 (0,0)) (by exact BK146.out) NB146_0.out (by simp));have n1_:=Aside0.mk (Kd.Q_mono (Kd.Q_keep (IsS61.apartQ (show IsS61 w0 _ g s0_0 x1001_11 x1002_11 from by exact HI0.out) (by exact HO168.out) (by decide)) hk (fun _ h => h.2)) (fun _ h => h.1));have n2_:=Aside0.mk (Kd.R_mono (Kd.R_keep (IsS61.apart (show IsS61 w0 _ g s0_0 x1001_11 x1002_11 from by exact HI0.out) (by exact HO171.out) (by decide)) hk (fun _ h => h.2)) (fun _ h => h.1));have n3_:=Aside0.mk (KeepBut.trans (by exact HK.out) hk (.inl rfl));have n4_:=Aside0.mk (hb);have n5_:=Aside0.mk (hi);clear BK146;clear HO168;clear HO171;clear HK;clear HB;clear HI0;have BK146:=n0_;have HO168:=n1_;have HO171:=n2_;have HK:=n3_;have HB:=n4_;have HI0:=n5_;clear n0_ n1_ n2_ n3_ n4_ n5_;(try clear hb);(try clear hk);(try clear hi)))
         go_roundg kj11
         case measure => have:=HK1.out;have:=HJ11.out;omega
         case rel => exact ⟨(y166),(wrap64 (x4_1 + t172)),(wrap64 (x5_1 - 1)),(t173),(t174),(by rfl),(by rfl),H',⟨by have:=HK1.out;have:=HJ11.out;omega⟩,⟨by exact Kd.Q_mono HO168.out (fun _ hk => trivial)⟩,⟨by exact HI0.out⟩,⟨by exact HK.out⟩,⟨by exact HB.out⟩⟩
        ·rw [if_neg c41] at H
         exact absurd H (by simp)
       ·rw [if_neg c40] at H
        have c40b0 : decide (0 < (Go.bits .andNot .i64 (wrap64 (1 + t143)) t147)) = false:=decide_eq_false c40
        clear c40
        obtain ⟨y175,hy175⟩ : ∃ y_ : List Int,y_ = (([0,1,5,24] : List Int)):=⟨_,rfl⟩
        replace H : ((spec_l1Cur_among.f s0_0 x1001_11 x1002_11 y175).bind fun bt178 => (spec_l1Cur_file.l0 kj11 x3_1 (wrap64 (x4_1 + bt178.1)) (wrap64 (x5_1 - 1)) s0_0 bt178.2.1 bt178.2.2)) = some (r1,r2,r3):=by (rw [hy175];with_reducible exact H)
        have Ny175:=Aside0.mk hy175
        clear hy175
        replace H:=Option.bind_eq_some_iff.mp H
        obtain ⟨⟨t178,t179,t180⟩,A500,H⟩ := H
        replace H : (spec_l1Cur_file.l0 kj11 x3_1 (wrap64 (x4_1 + t178)) (wrap64 (x5_1 - 1)) s0_0 t179 t180) = some (r1,r2,r3):=H
        have A50:=Aside0.mk A500
        clear A500
        have H':=Aside0.mk H
        clear H
        have hnb51:=NB146_0.out
        have hnc51:=NB0_146.out
        have hcz52_0 : wc.cell? ⟨gb146,0,none⟩ = some (.int .i64 x4_1):=(blk_cell BK146.out 0).trans rfl
        have hcz52_1 : wc.cell? ⟨gb146,1,none⟩ = some (.string t140):=(blk_cell BK146.out 1).trans rfl
        have hcz52_2 : wc.cell? ⟨gb146,2,none⟩ = some (.bool true):=(blk_cell BK146.out 2).trans rfl
        have hcz52_3 : wc.cell? ⟨gb146,3,none⟩ = some (.int .i64 (wrap64 (1 + t143))):=(blk_cell BK146.out 3).trans rfl
        have hfz52_0:=blk_frozen BK146.out 0
        have hfz52_1:=blk_frozen BK146.out 1
        have hfz52_2:=blk_frozen BK146.out 2
        have hfz52_3:=blk_frozen BK146.out 3
        go_wp2_with (first | ((with_reducible refine gate_dst (N:=60) rfl ?_);refine Kd.R_lit (Kd.int .i64) _ 3 ?hg (N:=60) ?hd (xs:=([0,1,5,24] : List Int)) (inner := [.int .i64 0, .int .i64 1, .int .i64 5, .int .i64 24]) (ok:=fun _ => True) (okp:=fun _ => True) ?hr ?hp (fun _ hk => hk) trivial (Below.refl _ _) (Nat.le_refl _) (by simp) ?_;(case hd => rfl);(case hg => rfl);(case hr => (go_simp;done));(case hp => exact (Reps.one (show Kd.M (Kd.int .i64) _ _ _ 0 [.int .i64 0] from rfl) (Reps.one (show Kd.M (Kd.int .i64) _ _ _ 1 [.int .i64 1] from rfl) (Reps.one (show Kd.M (Kd.int .i64) _ _ _ 5 [.int .i64 5] from rfl) (Reps.one (show Kd.M (Kd.int .i64) _ _ _ 24 [.int .i64 24] from rfl) (Reps.none _ _))))));intro v176 w53 ho54 hb hg_ hnew_;clear hg_ hnew_;(rw [← Ny175.out] at ho54);have n0_:=Aside0.mk (Kd.Q_below (by exact (Kd.Q_mono (Kd.Q_far (p:=⟨gb146,3,none⟩) (Kd.Q_mono HO_3.out (fun k_ hk => (⟨hk,hk⟩ : _ ∧ k_ ≠ gb146))) (fun _ hk => hk.2) (.int .i64 (Go.bits .andNot .i64 (wrap64 (1 + t143)) t147))) (fun _ h_ => h_.1))) hb);have n1_:=Aside0.mk (Kd.R_lower ho54 (keep_size (w:=w) (g:=g) (row:=none) (by repeat ((with_reducible first | exact HK.out | refine keep_far ?_ GW146.out _)))));have n2_:=Aside0.mk (blk_below (g:=gb146) (o := .cells #[.int .i64 x4_1, .string t140, .bool true, .int .i64 (Go.bits .andNot .i64 (wrap64 (1 + t143)) t147)] 52 (0,0)) (by refine blk_put (cs:=#[.int .i64 x4_1, .string t140, .bool true, .int .i64 (wrap64 (1 + t143))]) ?_ 3 _ rfl;exact BK146.out) hb);have n3_:=Aside0.mk (IsS61.below (show IsS61 w0 (wc.setCell ⟨gb146,3,none⟩ (.int .i64 (Go.bits .andNot .i64 (wrap64 (1 + t143)) t147))) g s0_0 x1001_11 x1002_11 from by repeat ((with_reducible first | exact HI0.out | refine IsS61.far ?_ NB0_146.out _))) hb);have n4_:=Aside0.mk (KeepBut.trans (by repeat ((with_reducible first | exact HK.out | refine keep_far ?_ GW146.out _))) (KeepBut.of_below hb g none) (.inl rfl));have n5_:=Aside0.mk (below_step (by repeat ((with_reducible first | exact HB.out | refine below_set ?_ GE146.out))) hb);clear HO_3;clear BK146;clear HI0;clear HK;clear HB;have HO_3:=n0_;have HO177:=n1_;have BK146:=n2_;have HI0:=n3_;have HK:=n4_;have HB:=n5_;clear n0_ n1_ n2_ n3_ n4_ n5_;clear hb ho54;obtain ⟨Ao55,co55,eo55⟩ := Kd.R_slice HO177.out;subst eo55) | ((with_reducible refine gate_callee (f:=56) rfl ?_);refine goesL_ (some 61) rfl rfl Try.func56 (by kernel_rfl) rfl #[.pointer (some ⟨g,0,none⟩), .slice Ao55 y175.length co55] rfl (by (try simp only [List.map_toArray,List.map_cons,List.map_nil]);rfl) ?_;(with_reducible refine (spec_l1Cur_among.calls g s0_0 x1001_11 x1002_11 _ _ y175 t178 t179 t180 w0 _ ?side1 ?side2 ?side3 ?side4 ?side5 A50.out).mono ?_);(case side1 => exact HI0.out);(case side2 => exact HB.out);(case side3 => repeat (exact (Kd.R_reads' HO177.out).2.2));(case side4 => exact (Kd.R_reads' HO177.out).2.1);(case side5 => exact far_slice (IsS61.own_ne HI0.out HO177.out (by decide)));rintro e w56 ⟨rfl,hi,hb,hk⟩;refine ⟨_,rfl, ?_⟩;have n0_:=Aside0.mk (Kd.Q_mono (Kd.Q_keep (IsS61.apartQ (show IsS61 w0 _ g s0_0 x1001_11 x1002_11 from by exact HI0.out) (by exact HO_3.out) (by decide)) hk (fun _ h => h.2)) (fun _ h => h.1));have n1_:=Aside0.mk (KeepBut.blk hk (g':=gb146) (o := .cells #[.int .i64 x4_1, .string t140, .bool true, .int .i64 (Go.bits .andNot .i64 (wrap64 (1 + t143)) t147)] 52 (0,0)) (by exact BK146.out) NB146_0.out (by simp));have n2_:=Aside0.mk (Kd.R_mono (Kd.R_keep (IsS61.apart (show IsS61 w0 _ g s0_0 x1001_11 x1002_11 from by exact HI0.out) (by exact HO177.out) (by decide)) hk (fun _ h => h.2)) (fun _ h => h.1));have n3_:=Aside0.mk (KeepBut.trans (by exact HK.out) hk (.inl rfl));have n4_:=Aside0.mk (hb);have n5_:=Aside0.mk (hi);clear HO_3;clear BK146;clear HO177;clear HK;clear HB;clear HI0;have HO_3:=n0_;have BK146:=n1_;have HO177:=n2_;have HK:=n3_;have HB:=n4_;have HI0:=n5_;clear n0_ n1_ n2_ n3_ n4_ n5_;(try clear hb);(try clear hk);(try clear hi)))
        go_roundg kj11
        case measure => have:=HK1.out;have:=HJ11.out;omega
        case rel => exact ⟨(x3_1),(wrap64 (x4_1 + t178)),(wrap64 (x5_1 - 1)),(t179),(t180),(by rfl),(by rfl),H',⟨by have:=HK1.out;have:=HJ11.out;omega⟩,⟨by exact Kd.Q_mono HO_3.out (fun _ hk => trivial)⟩,⟨by exact HI0.out⟩,⟨by exact HK.out⟩,⟨by exact HB.out⟩⟩
   ·rw [if_neg c8] at H
    have c8b0 : decide (0 < x5_1) = false:=decide_eq_false c8
    clear c8
    by_cases c57 : (x3_1.length : Int) = 0
    ·rw [if_pos c57] at H
     have c57b0 : ((x3_1.length : Int) == 0) = true:=beq_iff_eq.mpr c57
     have c57b1 : ((x3_1.length : Int) != 0) = false:=bne_eq_false_iff_eq.mpr c57
     clear c57
     simp only [Option.some.injEq,Prod.mk.injEq] at H
     obtain ⟨rfl,rfl,rfl⟩ := H
     obtain ⟨Ao58,co58,eo58,_⟩ := Kd.Q_slice HO_3.out
     subst eo58
     go_wp2
     go_ret
     exact ⟨_,by rfl,by exact HO_3.out,by exact HI0.out,by exact HB.out,by exact HK.out⟩
    ·rw [if_neg c57] at H
     have c57b0 : ((x3_1.length : Int) == 0) = false:=beq_eq_false_iff_ne.mpr c57
     have c57b1 : ((x3_1.length : Int) != 0) = true:=bne_iff_ne.mpr c57
     have c57b2 : ¬ (x3_1 = []):=fun h_ => c57 (by rw [h_];rfl)
     replace H:=Option.bind_eq_some_iff.mp H
     obtain ⟨⟨t181,t182,t183⟩,A590,H⟩ := H
     replace H : (if 0 ≤ t181 then (if t181 < (x3_1.length : Int) then ((spec_l1Cur_pick.f s0_0 t182 t183 40).bind fun bt186 => (if bt186.1 = 0 then ((spec_l1Cur_among.f s0_0 bt186.2.1 bt186.2.2 (([(-1),240,241,0] : List Int))).bind fun bt192 => (some ((x3_1.set (t181 : Int).toNat (⟨bt192.1,(rd_T52 x3_1 t181).f1,(rd_T52 x3_1 t181).f2,(rd_T52 x3_1 t181).f3⟩ : S52)),bt192.2.1,bt192.2.2))) else (if bt186.1 = 1 then ((spec_l1Cur_of.f s0_0 bt186.2.1 bt186.2.2 (([(⟨#[]⟩ : ByteArray),(⟨#[65,66,67,48,48,48,49,90]⟩ : ByteArray),(⟨#[97,98,99]⟩ : ByteArray)] : List ByteArray))).bind fun bt199 => (some ((x3_1.set (t181 : Int).toNat (⟨(rd_T52 x3_1 t181).f0,bt199.1,(rd_T52 x3_1 t181).f2,(rd_T52 x3_1 t181).f3⟩ : S52)),bt199.2.1,bt199.2.2))) else (if bt186.1 = 2 then ((spec_l1Cur_among.f s0_0 bt186.2.1 bt186.2.2 (([0,16,15] : List Int))).bind fun bt206 => (some ((x3_1.set (t181 : Int).toNat (⟨(rd_T52 x3_1 t181).f0,(rd_T52 x3_1 t181).f1,(rd_T52 x3_1 t181).f2,bt206.1⟩ : S52)),bt206.2.1,bt206.2.2))) else (if bt186.1 = 3 then (some ((x3_1.set (t181 : Int).toNat (⟨(rd_T52 x3_1 t181).f0,(rd_T52 x3_1 t181).f1,!((rd_T52 x3_1 t181).f2),(rd_T52 x3_1 t181).f3⟩ : S52)),bt186.2.1,bt186.2.2)) else (if bt186.1 = 4 then (if ((x3_1.length : Int) % 2) = 1 then (if 1 ≤ (x3_1.length : Int) then ((spec_l1Cur_id20.f k1 s0_0 bt186.2.1 bt186.2.2).bind fun bt214 => (spec_l1Cur_file.j2 k1 (([(⟨0,bt214.1,true,1⟩ : S52),(⟨0,bt214.1,false,1⟩ : S52)] : List (S52))) 0 s0_0 bt214.2.1 bt214.2.2 0 bt214.1 true 1)) else (none)) else (spec_l1Cur_file.j2 k1 x3_1 t181 s0_0 bt186.2.1 bt186.2.2 ((rd_T52 x3_1 t181).f0) ((rd_T52 x3_1 t181).f1) ((rd_T52 x3_1 t181).f2) ((rd_T52 x3_1 t181).f3))) else (some ((x3_1.set (t181 : Int).toNat (⟨(rd_T52 x3_1 t181).f0,(rd_T52 x3_1 t181).f1,(rd_T52 x3_1 t181).f2,(rd_T52 x3_1 t181).f3⟩ : S52)),bt186.2.1,bt186.2.2)))))))) else (none)) else (none)) = some (r1,r2,r3):=H
     have A59:=Aside0.mk A590
     clear A590
     by_cases c60 : 0 ≤ t181
     ·rw [if_pos c60] at H
      have c60b0 : decide (0 ≤ t181) = true:=decide_eq_true c60
      clear c60
      by_cases c61 : t181 < (x3_1.length : Int)
      ·rw [if_pos c61] at H
       have c61b0 : decide (t181 < (x3_1.length : Int)) = true:=decide_eq_true c61
       clear c61
       replace H:=Option.bind_eq_some_iff.mp H
       obtain ⟨⟨t186,t187,t188⟩,A620,H⟩ := H
       replace H : (if t186 = 0 then ((spec_l1Cur_among.f s0_0 t187 t188 (([(-1),240,241,0] : List Int))).bind fun bt192 => (some ((x3_1.set (t181 : Int).toNat (⟨bt192.1,(rd_T52 x3_1 t181).f1,(rd_T52 x3_1 t181).f2,(rd_T52 x3_1 t181).f3⟩ : S52)),bt192.2.1,bt192.2.2))) else (if t186 = 1 then ((spec_l1Cur_of.f s0_0 t187 t188 (([(⟨#[]⟩ : ByteArray),(⟨#[65,66,67,48,48,48,49,90]⟩ : ByteArray),(⟨#[97,98,99]⟩ : ByteArray)] : List ByteArray))).bind fun bt199 => (some ((x3_1.set (t181 : Int).toNat (⟨(rd_T52 x3_1 t181).f0,bt199.1,(rd_T52 x3_1 t181).f2,(rd_T52 x3_1 t181).f3⟩ : S52)),bt199.2.1,bt199.2.2))) else (if t186 = 2 then ((spec_l1Cur_among.f s0_0 t187 t188 (([0,16,15] : List Int))).bind fun bt206 => (some ((x3_1.set (t181 : Int).toNat (⟨(rd_T52 x3_1 t181).f0,(rd_T52 x3_1 t181).f1,(rd_T52 x3_1 t181).f2,bt206.1⟩ : S52)),bt206.2.1,bt206.2.2))) else (if t186 = 3 then (some ((x3_1.set (t181 : Int).toNat (⟨(rd_T52 x3_1 t181).f0,(rd_T52 x3_1 t181).f1,!((rd_T52 x3_1 t181).f2),(rd_T52 x3_1 t181).f3⟩ : S52)),t187,t188)) else (if t186 = 4 then (if ((x3_1.length : Int) % 2) = 1 then (if 1 ≤ (x3_1.length : Int) then ((spec_l1Cur_id20.f k1 s0_0 t187 t188).bind fun bt214 => (spec_l1Cur_file.j2 k1 (([(⟨0,bt214.1,true,1⟩ : S52),(⟨0,bt214.1,false,1⟩ : S52)] : List (S52))) 0 s0_0 bt214.2.1 bt214.2.2 0 bt214.1 true 1)) else (none)) else (spec_l1Cur_file.j2 k1 x3_1 t181 s0_0 t187 t188 ((rd_T52 x3_1 t181).f0) ((rd_T52 x3_1 t181).f1) ((rd_T52 x3_1 t181).f2) ((rd_T52 x3_1 t181).f3))) else (some ((x3_1.set (t181 : Int).toNat (⟨(rd_T52 x3_1 t181).f0,(rd_T52 x3_1 t181).f1,(rd_T52 x3_1 t181).f2,(rd_T52 x3_1 t181).f3⟩ : S52)),t187,t188))))))) = some (r1,r2,r3):=H
       have A62:=Aside0.mk A620
       clear A620
       by_cases c63 : t186 = 0
       ·rw [if_pos c63] at H
        have c63b0 : (t186 == 0) = true:=beq_iff_eq.mpr c63
        have c63b1 : (t186 != 0) = false:=bne_eq_false_iff_eq.mpr c63
        clear c63
        obtain ⟨y189,hy189⟩ : ∃ y_ : List Int,y_ = (([(-1),240,241,0] : List Int)):=⟨_,rfl⟩
        replace H : ((spec_l1Cur_among.f s0_0 t187 t188 y189).bind fun bt192 => (some ((x3_1.set (t181 : Int).toNat (⟨bt192.1,(rd_T52 x3_1 t181).f1,(rd_T52 x3_1 t181).f2,(rd_T52 x3_1 t181).f3⟩ : S52)),bt192.2.1,bt192.2.2))) = some (r1,r2,r3):=by (rw [hy189];with_reducible exact H)
        have Ny189:=Aside0.mk hy189
        clear hy189
        replace H:=Option.bind_eq_some_iff.mp H
        obtain ⟨⟨t192,t193,t194⟩,A640,H⟩ := H
        replace H : (some ((x3_1.set (t181 : Int).toNat (⟨t192,(rd_T52 x3_1 t181).f1,(rd_T52 x3_1 t181).f2,(rd_T52 x3_1 t181).f3⟩ : S52)),t193,t194)) = some (r1,r2,r3):=H
        have A64:=Aside0.mk A640
        clear A640
        obtain ⟨y195,hy195⟩ : ∃ y_ : List (S52),y_ = (x3_1.set (t181 : Int).toNat (⟨t192,(rd_T52 x3_1 t181).f1,(rd_T52 x3_1 t181).f2,(rd_T52 x3_1 t181).f3⟩ : S52)):=⟨_,rfl⟩
        replace H : (some (y195,t193,t194)) = some (r1,r2,r3):=by (rw [hy195];with_reducible exact H)
        have Ny195:=Aside0.mk hy195
        clear hy195
        simp only [Option.some.injEq,Prod.mk.injEq] at H
        obtain ⟨rfl,rfl,rfl⟩ := H
        obtain ⟨Ao66,co66,eo66,_⟩ := Kd.Q_slice HO_3.out
        subst eo66
        go_wp2_with (first | ((with_reducible refine gate_callee (f:=45) rfl ?_);refine goesL_ (some 70) rfl rfl Try.func45 (by kernel_rfl) rfl #[.pointer (some ⟨g,0,none⟩), .int .i64 (x3_1.length : Int)] rfl (by (try simp only [List.map_toArray,List.map_cons,List.map_nil]);rfl) ?_;(with_reducible refine (spec_l1Cur_pick.calls g s0_0 x1001_1 x1002_1 (x3_1.length : Int) t181 t182 t183 w0 _ ?side1 ?side2 A59.out).mono ?_);(case side1 => exact HI0.out);(case side2 => exact HB.out);rintro e w67 ⟨rfl,hi,hb,hk⟩;refine ⟨_,rfl, ?_⟩;have n0_:=Aside0.mk (Kd.Q_mono (Kd.Q_keep (IsS61.apartQ (show IsS61 w0 _ g s0_0 x1001_1 x1002_1 from by exact HI0.out) (by exact HO_3.out) (by decide)) hk (fun _ h => h.2)) (fun _ h => h.1));have n1_:=Aside0.mk (KeepBut.trans (by exact HK.out) hk (.inl rfl));have n2_:=Aside0.mk (hb);have n3_:=Aside0.mk (hi);clear HO_3;clear HK;clear HB;clear HI0;have HO_3:=n0_;have HK:=n1_;have HB:=n2_;have HI0:=n3_;clear n0_ n1_ n2_ n3_;(try clear hb);(try clear hk);(try clear hi);have p184 : 0 ≤ (t181 : Int):=of_decide_eq_true (by (with_reducible assumption));have q184 : t181 < (x3_1.length : Int):=of_decide_eq_true (by (with_reducible assumption));obtain ⟨ad184,e184,hx184_0,hx184_1,hx184_2,hx184_3⟩ := at_T52 (Kd.Q_reads' HO_3.out).2.2 t181 p184 q184;cases e184;replace p184:=eq_true p184;replace q184:=eq_true q184) | ((with_reducible refine gate_dst (N:=9) rfl ?_);refine box_event ?hg (N:=9) ?hd (cs:=#[.int .i64 0, .string (⟨#[]⟩ : ByteArray), .bool false, .int .i64 0]) (t:=52) ?hr ?_;(case hd => rfl);(case hg => rfl);(case hr => (go_simp;done));intro gb185 hg w68 hbox hb;have n0_:=Aside0.mk (Kd.Q_below (Kd.Q_elderB (by exact HO_3.out) gb185 (Nat.le_of_eq hg.symm)) hb);have n1_:=Aside0.mk (IsS61.below (by exact HI0.out) hb);have n2_:=Aside0.mk (KeepBut.trans (by exact HK.out) (KeepBut.of_below hb g none) (.inl rfl));have n3_:=Aside0.mk (below_step (by exact HB.out) hb);have n4_:=Aside0.mk (hbox);have n5_:=Aside0.mk ((by rw [hg];exact (keep_size (w:=w) (g:=g) (row:=none) (by exact HK.out)) : w.heap.size ≤ gb185));have n6_:=Aside0.mk ((Nat.le_trans HW0.out (by rw [hg];exact (keep_size (w:=w) (g:=g) (row:=none) (by exact HK.out)) : w.heap.size ≤ gb185) : w0.heap.size ≤ gb185));have n7_:=Aside0.mk ((by rw [hg];exact Nat.ne_of_lt (IsS61.lt (show IsS61 w0 _ g s0_0 t182 t183 from by exact HI0.out)) : g ≠ gb185));have n8_:=Aside0.mk ((by rw [hg];exact Nat.ne_of_gt (IsS61.lt (show IsS61 w0 _ g s0_0 t182 t183 from by exact HI0.out)) : gb185 ≠ g));clear HO_3;clear HI0;clear HK;clear HB;have HO_3:=n0_;have HI0:=n1_;have HK:=n2_;have HB:=n3_;have BK185:=n4_;have GW185:=n5_;have GE185:=n6_;have NB0_185:=n7_;have NB185_0:=n8_;clear n0_ n1_ n2_ n3_ n4_ n5_ n6_ n7_ n8_;clear hb hbox hg;have hnb69:=NB185_0.out;have hnc69:=NB0_185.out;have hcz70_0 : w68.cell? ⟨gb185,0,none⟩ = some (.int .i64 0):=(blk_cell BK185.out 0).trans rfl;have hcz70_1 : w68.cell? ⟨gb185,1,none⟩ = some (.string (⟨#[]⟩ : ByteArray)):=(blk_cell BK185.out 1).trans rfl;have hcz70_2 : w68.cell? ⟨gb185,2,none⟩ = some (.bool false):=(blk_cell BK185.out 2).trans rfl;have hcz70_3 : w68.cell? ⟨gb185,3,none⟩ = some (.int .i64 0):=(blk_cell BK185.out 3).trans rfl;have hfz70_0:=blk_frozen BK185.out 0;have hfz70_1:=blk_frozen BK185.out 1;have hfz70_2:=blk_frozen BK185.out 2;have hfz70_3:=blk_frozen BK185.out 3) | ((with_reducible refine gate_callee (f:=45) rfl ?_);refine goesL_ (some 76) rfl rfl Try.func45 (by kernel_rfl) rfl #[.pointer (some ⟨g,0,none⟩), .int .i64 40] rfl (by (try simp only [List.map_toArray,List.map_cons,List.map_nil]);rfl) ?_;(with_reducible refine (spec_l1Cur_pick.calls g s0_0 t182 t183 40 t186 t187 t188 w0 _ ?side1 ?side2 A62.out).mono ?_);(case side1 => repeat ((with_reducible first | exact HI0.out | refine IsS61.far ?_ NB0_185.out _)));(case side2 => repeat ((with_reducible first | exact HB.out | refine below_set ?_ GE185.out)));rintro e w71 ⟨rfl,hi,hb,hk⟩;refine ⟨_,rfl, ?_⟩;have n0_:=Aside0.mk (Kd.Q_mono (Kd.Q_keep (IsS61.apartQ (show IsS61 w0 _ g s0_0 t182 t183 from by repeat ((with_reducible first | exact HI0.out | refine IsS61.far ?_ NB0_185.out _))) (by exact (Kd.Q_mono (Kd.Q_far (p:=⟨gb185,3,none⟩) (Kd.Q_far (p:=⟨gb185,2,none⟩) (Kd.Q_far (p:=⟨gb185,1,none⟩) (Kd.Q_far (p:=⟨gb185,0,none⟩) (Kd.Q_mono HO_3.out (fun k_ hk => (⟨hk,hk.2⟩ : _ ∧ k_ ≠ gb185))) (fun _ hk => hk.2) (.int .i64 ((rd_T52 x3_1 t181).f0))) (fun _ hk => hk.2) (.string ((rd_T52 x3_1 t181).f1))) (fun _ hk => hk.2) (.bool ((rd_T52 x3_1 t181).f2))) (fun _ hk => hk.2) (.int .i64 ((rd_T52 x3_1 t181).f3))) (fun _ h_ => h_.1))) (by decide)) hk (fun _ h => h.2)) (fun _ h => h.1));have n1_:=Aside0.mk (KeepBut.blk hk (g':=gb185) (o := .cells #[.int .i64 ((rd_T52 x3_1 t181).f0), .string ((rd_T52 x3_1 t181).f1), .bool ((rd_T52 x3_1 t181).f2), .int .i64 ((rd_T52 x3_1 t181).f3)] 52 (0,0)) (by refine blk_put (cs:=#[.int .i64 ((rd_T52 x3_1 t181).f0), .string ((rd_T52 x3_1 t181).f1), .bool ((rd_T52 x3_1 t181).f2), .int .i64 0]) ?_ 3 _ rfl;refine blk_put (cs:=#[.int .i64 ((rd_T52 x3_1 t181).f0), .string ((rd_T52 x3_1 t181).f1), .bool false, .int .i64 0]) ?_ 2 _ rfl;refine blk_put (cs:=#[.int .i64 ((rd_T52 x3_1 t181).f0), .string (⟨#[]⟩ : ByteArray), .bool false, .int .i64 0]) ?_ 1 _ rfl;refine blk_put (cs:=#[.int .i64 0, .string (⟨#[]⟩ : ByteArray), .bool false, .int .i64 0]) ?_ 0 _ rfl;exact BK185.out) NB185_0.out (by simp));have n2_:=Aside0.mk (KeepBut.trans (by repeat ((with_reducible first | exact HK.out | refine keep_far ?_ GW185.out _))) hk (.inl rfl));have n3_:=Aside0.mk (hb);have n4_:=Aside0.mk (hi);clear HO_3;clear BK185;clear HK;clear HB;clear HI0;have HO_3:=n0_;have BK185:=n1_;have HK:=n2_;have HB:=n3_;have HI0:=n4_;clear n0_ n1_ n2_ n3_ n4_;(try clear hb);(try clear hk);(try clear hi)) | ((with_reducible refine gate_dst (N:=80) rfl ?_);refine Kd.R_lit (Kd.int .i64) _ 3 ?hg (N:=80) ?hd (xs:=([(-1),240,241,0] : List Int)) (inner := [.int .i64 (-1), .int .i64 240, .int .i64 241, .int .i64 0]) (ok:=fun _ => True) (okp:=fun _ => True) ?hr ?hp (fun _ hk => hk) trivial (Below.refl _ _) (Nat.le_refl _) (by simp) ?_;(case hd => rfl);(case hg => rfl);(case hr => (go_simp;done));(case hp => exact (Reps.one (show Kd.M (Kd.int .i64) _ _ _ (-1) [.int .i64 (-1)] from rfl) (Reps.one (show Kd.M (Kd.int .i64) _ _ _ 240 [.int .i64 240] from rfl) (Reps.one (show Kd.M (Kd.int .i64) _ _ _ 241 [.int .i64 241] from rfl) (Reps.one (show Kd.M (Kd.int .i64) _ _ _ 0 [.int .i64 0] from rfl) (Reps.none _ _))))));intro v190 w72 ho73 hb hg_ hnew_;clear hg_ hnew_;(rw [← Ny189.out] at ho73);have n0_:=Aside0.mk (Kd.Q_below (by exact HO_3.out) hb);have n1_:=Aside0.mk (Kd.R_lower ho73 (keep_size (w:=w) (g:=g) (row:=none) (by exact HK.out)));have n2_:=Aside0.mk (IsS61.below (by exact HI0.out) hb);have n3_:=Aside0.mk (blk_below (g:=gb185) (o := .cells #[.int .i64 ((rd_T52 x3_1 t181).f0), .string ((rd_T52 x3_1 t181).f1), .bool ((rd_T52 x3_1 t181).f2), .int .i64 ((rd_T52 x3_1 t181).f3)] 52 (0,0)) (by exact BK185.out) hb);have n4_:=Aside0.mk (KeepBut.trans (by exact HK.out) (KeepBut.of_below hb g none) (.inl rfl));have n5_:=Aside0.mk (below_step (by exact HB.out) hb);clear HO_3;clear HI0;clear BK185;clear HK;clear HB;have HO_3:=n0_;have HO191:=n1_;have HI0:=n2_;have BK185:=n3_;have HK:=n4_;have HB:=n5_;clear n0_ n1_ n2_ n3_ n4_ n5_;clear hb ho73;obtain ⟨Ao74,co74,eo74⟩ := Kd.R_slice HO191.out;subst eo74) | ((with_reducible refine gate_callee (f:=56) rfl ?_);refine goesL_ (some 81) rfl rfl Try.func56 (by kernel_rfl) rfl #[.pointer (some ⟨g,0,none⟩), .slice Ao74 y189.length co74] rfl (by (try simp only [List.map_toArray,List.map_cons,List.map_nil]);rfl) ?_;(with_reducible refine (spec_l1Cur_among.calls g s0_0 t187 t188 _ _ y189 t192 t193 t194 w0 _ ?side1 ?side2 ?side3 ?side4 ?side5 A64.out).mono ?_);(case side1 => exact HI0.out);(case side2 => exact HB.out);(case side3 => repeat (exact (Kd.R_reads' HO191.out).2.2));(case side4 => exact (Kd.R_reads' HO191.out).2.1);(case side5 => exact far_slice (IsS61.own_ne HI0.out HO191.out (by decide)));rintro e w75 ⟨rfl,hi,hb,hk⟩;refine ⟨_,rfl, ?_⟩;have n0_:=Aside0.mk (Kd.Q_mono (Kd.Q_keep (IsS61.apartQ (show IsS61 w0 _ g s0_0 t187 t188 from by exact HI0.out) (by exact HO_3.out) (by decide)) hk (fun _ h => h.2)) (fun _ h => h.1));have n1_:=Aside0.mk (KeepBut.blk hk (g':=gb185) (o := .cells #[.int .i64 ((rd_T52 x3_1 t181).f0), .string ((rd_T52 x3_1 t181).f1), .bool ((rd_T52 x3_1 t181).f2), .int .i64 ((rd_T52 x3_1 t181).f3)] 52 (0,0)) (by exact BK185.out) NB185_0.out (by simp));have n2_:=Aside0.mk (Kd.R_mono (Kd.R_keep (IsS61.apart (show IsS61 w0 _ g s0_0 t187 t188 from by exact HI0.out) (by exact HO191.out) (by decide)) hk (fun _ h => h.2)) (fun _ h => h.1));have n3_:=Aside0.mk (KeepBut.trans (by exact HK.out) hk (.inl rfl));have n4_:=Aside0.mk (hb);have n5_:=Aside0.mk (hi);clear HO_3;clear BK185;clear HO191;clear HK;clear HB;clear HI0;have HO_3:=n0_;have BK185:=n1_;have HO191:=n2_;have HK:=n3_;have HB:=n4_;have HI0:=n5_;clear n0_ n1_ n2_ n3_ n4_ n5_;(try clear hb);(try clear hk);(try clear hi);have hcz76_0 : w75.cell? ⟨gb185,0,none⟩ = some (.int .i64 ((rd_T52 x3_1 t181).f0)):=(blk_cell BK185.out 0).trans rfl;have hcz76_1 : w75.cell? ⟨gb185,1,none⟩ = some (.string ((rd_T52 x3_1 t181).f1)):=(blk_cell BK185.out 1).trans rfl;have hcz76_2 : w75.cell? ⟨gb185,2,none⟩ = some (.bool ((rd_T52 x3_1 t181).f2)):=(blk_cell BK185.out 2).trans rfl;have hcz76_3 : w75.cell? ⟨gb185,3,none⟩ = some (.int .i64 ((rd_T52 x3_1 t181).f3)):=(blk_cell BK185.out 3).trans rfl;have hfz76_0:=blk_frozen BK185.out 0;have hfz76_1:=blk_frozen BK185.out 1;have hfz76_2:=blk_frozen BK185.out 2;have hfz76_3:=blk_frozen BK185.out 3) | ((with_reducible refine gate_store (t:=3) (p:=82) rfl ?_);refine store_event (t:=3) (p:=82) (v:=?vo_w77) (w1:=(w75.setCell ⟨gb185,0,none⟩ (.int .i64 t192))) ?hg ?ho ?hn ?hr ?_;(case ho => rfl);(case hg => rfl);(case hn => rfl);(case hr => (go_simp;done));intro w77 hw;have n0_ : Aside0 (Kd.Q k52 52 w77 w.heap.size (fun k_ => k_ ≠ gb185) (.slice (some ad184) x3_1.length co66) x3_1):=⟨(by rw [hw];exact (by exact Kd.Q_mono (Kd.Q_far (p:=⟨gb185,0,none⟩) (Kd.Q_mono HO_3.out (fun k_ hk => (⟨hk,hk.2⟩ : _ ∧ k_ ≠ gb185))) (fun _ hk => hk.2) (.int .i64 t192)) (fun _ hk => hk.1.2)))⟩;have n1_ : Aside0 (Kd.R (Kd.int .i64) 3 w77 w.heap.size (fun _ => True) (.slice Ao74 y189.length co74) y189):=⟨(by rw [hw];exact (by exact Kd.R_mono (Kd.R_far (p:=⟨gb185,0,none⟩) (Kd.R_types HO191.out BK185.out (by decide)) (fun _ hk => hk.2) (.int .i64 t192)) (fun _ hk => trivial)))⟩;have n2_ : Aside0 (w77.heap[gb185]? = some (.cells #[.int .i64 t192, .string ((rd_T52 x3_1 t181).f1), .bool ((rd_T52 x3_1 t181).f2), .int .i64 ((rd_T52 x3_1 t181).f3)] 52 (0,0))):=⟨(by rw [hw];exact (by refine blk_put (cs:=#[.int .i64 ((rd_T52 x3_1 t181).f0), .string ((rd_T52 x3_1 t181).f1), .bool ((rd_T52 x3_1 t181).f2), .int .i64 ((rd_T52 x3_1 t181).f3)]) ?_ 0 _ rfl;exact BK185.out))⟩;have n3_ : Aside0 (IsS61 w0 w77 g s0_0 t193 t194):=⟨(by rw [hw];exact (by repeat ((with_reducible first | exact HI0.out | refine IsS61.far ?_ NB0_185.out _))))⟩;have n4_ : Aside0 (KeepBut w w77 g none):=⟨(by rw [hw];exact (by repeat ((with_reducible first | exact HK.out | refine keep_far ?_ GW185.out _))))⟩;have n5_ : Aside0 (Below w0.heap.size w0 w77):=⟨(by rw [hw];exact (by repeat ((with_reducible first | exact HB.out | refine below_set ?_ GE185.out))))⟩;clear hw;clear HO_3;clear HO191;clear BK185;clear HI0;clear HK;clear HB;have HO_3:=n0_;have HO191:=n1_;have BK185:=n2_;have HI0:=n3_;have HK:=n4_;have HB:=n5_;clear n0_ n1_ n2_ n3_ n4_ n5_;have hcz78_0 : w77.cell? ⟨gb185,0,none⟩ = some (.int .i64 t192):=(blk_cell BK185.out 0).trans rfl;have hcz78_1 : w77.cell? ⟨gb185,1,none⟩ = some (.string ((rd_T52 x3_1 t181).f1)):=(blk_cell BK185.out 1).trans rfl;have hcz78_2 : w77.cell? ⟨gb185,2,none⟩ = some (.bool ((rd_T52 x3_1 t181).f2)):=(blk_cell BK185.out 2).trans rfl;have hcz78_3 : w77.cell? ⟨gb185,3,none⟩ = some (.int .i64 ((rd_T52 x3_1 t181).f3)):=(blk_cell BK185.out 3).trans rfl;have hfz78_0:=blk_frozen BK185.out 0;have hfz78_1:=blk_frozen BK185.out 1;have hfz78_2:=blk_frozen BK185.out 2;have hfz78_3:=blk_frozen BK185.out 3;have p65 : 0 ≤ (t181 : Int):=of_decide_eq_true (by (with_reducible assumption));have q65 : (t181 : Int) < ((x3_1.length : Int) : Int):=of_decide_eq_true (by (with_reducible assumption));obtain ⟨go65,oo65,co65,eo65,gb65,gl65,cl65,HG65⟩ := Kd.Q_form HO_3.out (by omega);(cases eo65);have GB65:=Aside0.mk gb65;have GG65:=Aside0.mk HG65;clear gb65 gl65 HG65;(simp only [add_at] at hx184_0);(simp only [add_at] at hx184_1);(simp only [add_at] at hx184_2);(simp only [add_at] at hx184_3);obtain ⟨ce65,hcl65,hM65,hcc65,hfr65⟩ := Kd.Q_elem HO_3.out z52 (t181 : Int) p65 q65;obtain rfl:=k52_openM hM65;have hx65_0 : w77.cell? ⟨go65,oo65 + (t181 : Int).toNat * 4,none⟩ = some (.int .i64 ((rd_T52 x3_1 t181).f0)):=hcc65 0 _ rfl;have hx65_1 : w77.cell? ⟨go65,oo65 + (t181 : Int).toNat * 4 + 1,none⟩ = some (.string ((rd_T52 x3_1 t181).f1)):=hcc65 1 _ rfl;have hx65_2 : w77.cell? ⟨go65,oo65 + (t181 : Int).toNat * 4 + 2,none⟩ = some (.bool ((rd_T52 x3_1 t181).f2)):=hcc65 2 _ rfl;have hx65_3 : w77.cell? ⟨go65,oo65 + (t181 : Int).toNat * 4 + 3,none⟩ = some (.int .i64 ((rd_T52 x3_1 t181).f3)):=hcc65 3 _ rfl;have hf65_0 : w77.frozen? ⟨go65,oo65 + (t181 : Int).toNat * 4,none⟩ = false:=hfr65 0;have hf65_1 : w77.frozen? ⟨go65,oo65 + (t181 : Int).toNat * 4 + 1,none⟩ = false:=hfr65 1;have hf65_2 : w77.frozen? ⟨go65,oo65 + (t181 : Int).toNat * 4 + 2,none⟩ = false:=hfr65 2;have hf65_3 : w77.frozen? ⟨go65,oo65 + (t181 : Int).toNat * 4 + 3,none⟩ = false:=hfr65 3;clear hcl65 hcc65 hfr65;(try clear hM65);replace p65:=eq_true p65;replace q65:=eq_true q65;have HX79:=Aside0.mk (show Kd.Q k52 52 w77 w.heap.size (fun k_ => k_ ≠ gb185) (.slice (some ⟨go65,oo65,none⟩) x3_1.length co66) x3_1 from (by exact HO_3.out));obtain ⟨ce79,hcl79,hM79,hcc79,hfr79⟩ := Kd.Q_elem HX79.out z52 (t181 : Int) (of_decide_eq_true (by (with_reducible assumption))) (by have h_ : (t181 : Int) < ((x3_1.length : Int) : Int):=of_decide_eq_true (by (with_reducible assumption));exact h_);obtain rfl:=k52_openM hM79;have HP79:=Kd.Q_seg HX79.out (t181 : Int) (of_decide_eq_true (by (with_reducible assumption))) (by have h_ : (t181 : Int) < ((x3_1.length : Int) : Int):=of_decide_eq_true (by (with_reducible assumption));exact h_) (seg := [.int .i64 t192, .string ((rd_T52 x3_1 t181).f1), .bool ((rd_T52 x3_1 t181).f2), .int .i64 ((rd_T52 x3_1 t181).f3)]) (j:=0) hcl79 hcc79 (show 4 ≤ 4 from by decide) (x':=(⟨t192,(rd_T52 x3_1 t181).f1,(rd_T52 x3_1 t181).f2,(rd_T52 x3_1 t181).f3⟩ : S52)) (k52_mkM _ _ _ (⟨t192,(rd_T52 x3_1 t181).f1,(rd_T52 x3_1 t181).f2,(rd_T52 x3_1 t181).f3⟩ : S52) ) (fun _ hk => hk);have hx79_0:=hcc79 0 _ rfl;(try simp only [show (k52).sz = 4 from rfl,Nat.mul_one,Nat.add_zero] at hx79_0);have hf79_0:=hfr79 0;(try simp only [show (k52).sz = 4 from rfl,Nat.mul_one,Nat.add_zero] at hf79_0);have hx79_1:=hcc79 1 _ rfl;(try simp only [show (k52).sz = 4 from rfl,Nat.mul_one,Nat.add_zero] at hx79_1);have hf79_1:=hfr79 1;(try simp only [show (k52).sz = 4 from rfl,Nat.mul_one,Nat.add_zero] at hf79_1);have hx79_2:=hcc79 2 _ rfl;(try simp only [show (k52).sz = 4 from rfl,Nat.mul_one,Nat.add_zero] at hx79_2);have hf79_2:=hfr79 2;(try simp only [show (k52).sz = 4 from rfl,Nat.mul_one,Nat.add_zero] at hf79_2);have hx79_3:=hcc79 3 _ rfl;(try simp only [show (k52).sz = 4 from rfl,Nat.mul_one,Nat.add_zero] at hx79_3);have hf79_3:=hfr79 3;(try simp only [show (k52).sz = 4 from rfl,Nat.mul_one,Nat.add_zero] at hf79_3);clear hcl79 hcc79 hfr79;(try clear hM79)) | ((with_reducible refine gate_store (t:=52) (p:=140) rfl ?_);refine store_event (t:=52) (p:=140) (v:=?vo_w80) (w1:=((((w77.setCell ⟨go65,oo65 + (t181 : Int).toNat * 4,none⟩ (.int .i64 t192)).setCell ⟨go65,oo65 + (t181 : Int).toNat * 4 + 1,none⟩ (.string ((rd_T52 x3_1 t181).f1))).setCell ⟨go65,oo65 + (t181 : Int).toNat * 4 + 2,none⟩ (.bool ((rd_T52 x3_1 t181).f2))).setCell ⟨go65,oo65 + (t181 : Int).toNat * 4 + 3,none⟩ (.int .i64 ((rd_T52 x3_1 t181).f3)))) ?hg ?ho ?hn ?hr ?_;(case ho => rfl);(case hg => rfl);(case hn => rfl);(case hr => (go_simp;done));intro w80 hw;have hg : w77.grownBy w80 (some go65):=(by rw [hw];exact HP79.2);have hp_ : Kd.Q k52 52 w80 w.heap.size (fun k_ => k_ ≠ gb185) (.slice (some ⟨go65,oo65,none⟩) x3_1.length co66) y195:=(by rw [hw,Ny195.out];exact HP79.1);clear HP79;have n0_:=Aside0.mk (hp_);have n1_:=Aside0.mk (IsS61.grownX3 HI0.out (by exact HI0.out) hg (IsS61.own_neQ HI0.out HO_3.out (by decide)));have n2_:=Aside0.mk (blk_grown (g:=gb185) (o := .cells #[.int .i64 t192, .string ((rd_T52 x3_1 t181).f1), .bool ((rd_T52 x3_1 t181).f2), .int .i64 ((rd_T52 x3_1 t181).f3)] 52 (0,0)) (by exact BK185.out) hg (Kd.Q_away HO_3.out (fun _ hk => hk)));have n3_:=Aside0.mk (Kd.R_over' (v:=(.slice (some ⟨go65,oo65,none⟩) x3_1.length co66)) (by exact HO191.out) (Kd.Q_typed HO_3.out) (by decide) hg);have n4_:=Aside0.mk ((by rw [hw];exact below_set (below_set (below_set (below_set (HB.out) (Nat.le_trans HL.out GB65.out)) (Nat.le_trans HL.out GB65.out)) (Nat.le_trans HL.out GB65.out)) (Nat.le_trans HL.out GB65.out) : Below w0.heap.size w0 w80));have n5_:=Aside0.mk (KeepBut.trans (by exact HK.out) (KeepBut.of_grown hg g) (Kd.Q_base2 HO_3.out));clear HO_3;clear HI0;clear BK185;clear HO191;clear HB;clear HK;have HO_3:=n0_;have HI0:=n1_;have BK185:=n2_;have HO191:=n3_;have HB:=n4_;have HK:=n5_;clear n0_ n1_ n2_ n3_ n4_ n5_;clear hg hw hp_))
        go_ret
        exact ⟨_,by rfl,by exact Kd.Q_mono HO_3.out (fun _ hk => trivial),by exact HI0.out,by exact HB.out,by exact HK.out⟩
       ·rw [if_neg c63] at H
        have c63b0 : (t186 == 0) = false:=beq_eq_false_iff_ne.mpr c63
        have c63b1 : (t186 != 0) = true:=bne_iff_ne.mpr c63
        by_cases c81 : t186 = 1
        ·rw [if_pos c81] at H
         have c81b0 : (t186 == 1) = true:=beq_iff_eq.mpr c81
         have c81b1 : (t186 != 1) = false:=bne_eq_false_iff_eq.mpr c81
         clear c81
         obtain ⟨y196,hy196⟩ : ∃ y_ : List ByteArray,y_ = (([(⟨#[]⟩ : ByteArray),(⟨#[65,66,67,48,48,48,49,90]⟩ : ByteArray),(⟨#[97,98,99]⟩ : ByteArray)] : List ByteArray)):=⟨_,rfl⟩
         replace H : ((spec_l1Cur_of.f s0_0 t187 t188 y196).bind fun bt199 => (some ((x3_1.set (t181 : Int).toNat (⟨(rd_T52 x3_1 t181).f0,bt199.1,(rd_T52 x3_1 t181).f2,(rd_T52 x3_1 t181).f3⟩ : S52)),bt199.2.1,bt199.2.2))) = some (r1,r2,r3):=by (rw [hy196];with_reducible exact H)
         have Ny196:=Aside0.mk hy196
         clear hy196
         replace H:=Option.bind_eq_some_iff.mp H
         obtain ⟨⟨t199,t200,t201⟩,A820,H⟩ := H
         replace H : (some ((x3_1.set (t181 : Int).toNat (⟨(rd_T52 x3_1 t181).f0,t199,(rd_T52 x3_1 t181).f2,(rd_T52 x3_1 t181).f3⟩ : S52)),t200,t201)) = some (r1,r2,r3):=H
         have A82:=Aside0.mk A820
         clear A820
         obtain ⟨y202,hy202⟩ : ∃ y_ : List (S52),y_ = (x3_1.set (t181 : Int).toNat (⟨(rd_T52 x3_1 t181).f0,t199,(rd_T52 x3_1 t181).f2,(rd_T52 x3_1 t181).f3⟩ : S52)):=⟨_,rfl⟩
         replace H : (some (y202,t200,t201)) = some (r1,r2,r3):=by (rw [hy202];with_reducible exact H)
         have Ny202:=Aside0.mk hy202
         clear hy202
         simp only [Option.some.injEq,Prod.mk.injEq] at H
         obtain ⟨rfl,rfl,rfl⟩ := H
         obtain ⟨Ao84,co84,eo84,_⟩ := Kd.Q_slice HO_3.out
         subst eo84
         go_wp2_with (first | ((with_reducible refine gate_callee (f:=45) rfl ?_);refine goesL_ (some 70) rfl rfl Try.func45 (by kernel_rfl) rfl #[.pointer (some ⟨g,0,none⟩), .int .i64 (x3_1.length : Int)] rfl (by (try simp only [List.map_toArray,List.map_cons,List.map_nil]);rfl) ?_;(with_reducible refine (spec_l1Cur_pick.calls g s0_0 x1001_1 x1002_1 (x3_1.length : Int) t181 t182 t183 w0 _ ?side1 ?side2 A59.out).mono ?_);(case side1 => exact HI0.out);(case side2 => exact HB.out);rintro e w85 ⟨rfl,hi,hb,hk⟩;refine ⟨_,rfl, ?_⟩;have n0_:=Aside0.mk (Kd.Q_mono (Kd.Q_keep (IsS61.apartQ (show IsS61 w0 _ g s0_0 x1001_1 x1002_1 from by exact HI0.out) (by exact HO_3.out) (by decide)) hk (fun _ h => h.2)) (fun _ h => h.1));have n1_:=Aside0.mk (KeepBut.trans (by exact HK.out) hk (.inl rfl));have n2_:=Aside0.mk (hb);have n3_:=Aside0.mk (hi);clear HO_3;clear HK;clear HB;clear HI0;have HO_3:=n0_;have HK:=n1_;have HB:=n2_;have HI0:=n3_;clear n0_ n1_ n2_ n3_;(try clear hb);(try clear hk);(try clear hi);have p184 : 0 ≤ (t181 : Int):=of_decide_eq_true (by (with_reducible assumption));have q184 : t181 < (x3_1.length : Int):=of_decide_eq_true (by (with_reducible assumption));obtain ⟨ad184,e184,hx184_0,hx184_1,hx184_2,hx184_3⟩ := at_T52 (Kd.Q_reads' HO_3.out).2.2 t181 p184 q184;cases e184;replace p184:=eq_true p184;replace q184:=eq_true q184) | ((with_reducible refine gate_dst (N:=9) rfl ?_);refine box_event ?hg (N:=9) ?hd (cs:=#[.int .i64 0, .string (⟨#[]⟩ : ByteArray), .bool false, .int .i64 0]) (t:=52) ?hr ?_;(case hd => rfl);(case hg => rfl);(case hr => (go_simp;done));intro gb185 hg w86 hbox hb;have n0_:=Aside0.mk (Kd.Q_below (Kd.Q_elderB (by exact HO_3.out) gb185 (Nat.le_of_eq hg.symm)) hb);have n1_:=Aside0.mk (IsS61.below (by exact HI0.out) hb);have n2_:=Aside0.mk (KeepBut.trans (by exact HK.out) (KeepBut.of_below hb g none) (.inl rfl));have n3_:=Aside0.mk (below_step (by exact HB.out) hb);have n4_:=Aside0.mk (hbox);have n5_:=Aside0.mk ((by rw [hg];exact (keep_size (w:=w) (g:=g) (row:=none) (by exact HK.out)) : w.heap.size ≤ gb185));have n6_:=Aside0.mk ((Nat.le_trans HW0.out (by rw [hg];exact (keep_size (w:=w) (g:=g) (row:=none) (by exact HK.out)) : w.heap.size ≤ gb185) : w0.heap.size ≤ gb185));have n7_:=Aside0.mk ((by rw [hg];exact Nat.ne_of_lt (IsS61.lt (show IsS61 w0 _ g s0_0 t182 t183 from by exact HI0.out)) : g ≠ gb185));have n8_:=Aside0.mk ((by rw [hg];exact Nat.ne_of_gt (IsS61.lt (show IsS61 w0 _ g s0_0 t182 t183 from by exact HI0.out)) : gb185 ≠ g));clear HO_3;clear HI0;clear HK;clear HB;have HO_3:=n0_;have HI0:=n1_;have HK:=n2_;have HB:=n3_;have BK185:=n4_;have GW185:=n5_;have GE185:=n6_;have NB0_185:=n7_;have NB185_0:=n8_;clear n0_ n1_ n2_ n3_ n4_ n5_ n6_ n7_ n8_;clear hb hbox hg;have hnb87:=NB185_0.out;have hnc87:=NB0_185.out;have hcz88_0 : w86.cell? ⟨gb185,0,none⟩ = some (.int .i64 0):=(blk_cell BK185.out 0).trans rfl;have hcz88_1 : w86.cell? ⟨gb185,1,none⟩ = some (.string (⟨#[]⟩ : ByteArray)):=(blk_cell BK185.out 1).trans rfl;have hcz88_2 : w86.cell? ⟨gb185,2,none⟩ = some (.bool false):=(blk_cell BK185.out 2).trans rfl;have hcz88_3 : w86.cell? ⟨gb185,3,none⟩ = some (.int .i64 0):=(blk_cell BK185.out 3).trans rfl;have hfz88_0:=blk_frozen BK185.out 0;have hfz88_1:=blk_frozen BK185.out 1;have hfz88_2:=blk_frozen BK185.out 2;have hfz88_3:=blk_frozen BK185.out 3) | ((with_reducible refine gate_callee (f:=45) rfl ?_);refine goesL_ (some 76) rfl rfl Try.func45 (by kernel_rfl) rfl #[.pointer (some ⟨g,0,none⟩), .int .i64 40] rfl (by (try simp only [List.map_toArray,List.map_cons,List.map_nil]);rfl) ?_;(with_reducible refine (spec_l1Cur_pick.calls g s0_0 t182 t183 40 t186 t187 t188 w0 _ ?side1 ?side2 A62.out).mono ?_);(case side1 => repeat ((with_reducible first | exact HI0.out | refine IsS61.far ?_ NB0_185.out _)));(case side2 => repeat ((with_reducible first | exact HB.out | refine below_set ?_ GE185.out)));rintro e w89 ⟨rfl,hi,hb,hk⟩;refine ⟨_,rfl, ?_⟩;have n0_:=Aside0.mk (Kd.Q_mono (Kd.Q_keep (IsS61.apartQ (show IsS61 w0 _ g s0_0 t182 t183 from by repeat ((with_reducible first | exact HI0.out | refine IsS61.far ?_ NB0_185.out _))) (by exact (Kd.Q_mono (Kd.Q_far (p:=⟨gb185,3,none⟩) (Kd.Q_far (p:=⟨gb185,2,none⟩) (Kd.Q_far (p:=⟨gb185,1,none⟩) (Kd.Q_far (p:=⟨gb185,0,none⟩) (Kd.Q_mono HO_3.out (fun k_ hk => (⟨hk,hk.2⟩ : _ ∧ k_ ≠ gb185))) (fun _ hk => hk.2) (.int .i64 ((rd_T52 x3_1 t181).f0))) (fun _ hk => hk.2) (.string ((rd_T52 x3_1 t181).f1))) (fun _ hk => hk.2) (.bool ((rd_T52 x3_1 t181).f2))) (fun _ hk => hk.2) (.int .i64 ((rd_T52 x3_1 t181).f3))) (fun _ h_ => h_.1))) (by decide)) hk (fun _ h => h.2)) (fun _ h => h.1));have n1_:=Aside0.mk (KeepBut.blk hk (g':=gb185) (o := .cells #[.int .i64 ((rd_T52 x3_1 t181).f0), .string ((rd_T52 x3_1 t181).f1), .bool ((rd_T52 x3_1 t181).f2), .int .i64 ((rd_T52 x3_1 t181).f3)] 52 (0,0)) (by refine blk_put (cs:=#[.int .i64 ((rd_T52 x3_1 t181).f0), .string ((rd_T52 x3_1 t181).f1), .bool ((rd_T52 x3_1 t181).f2), .int .i64 0]) ?_ 3 _ rfl;refine blk_put (cs:=#[.int .i64 ((rd_T52 x3_1 t181).f0), .string ((rd_T52 x3_1 t181).f1), .bool false, .int .i64 0]) ?_ 2 _ rfl;refine blk_put (cs:=#[.int .i64 ((rd_T52 x3_1 t181).f0), .string (⟨#[]⟩ : ByteArray), .bool false, .int .i64 0]) ?_ 1 _ rfl;refine blk_put (cs:=#[.int .i64 0, .string (⟨#[]⟩ : ByteArray), .bool false, .int .i64 0]) ?_ 0 _ rfl;exact BK185.out) NB185_0.out (by simp));have n2_:=Aside0.mk (KeepBut.trans (by repeat ((with_reducible first | exact HK.out | refine keep_far ?_ GW185.out _))) hk (.inl rfl));have n3_:=Aside0.mk (hb);have n4_:=Aside0.mk (hi);clear HO_3;clear BK185;clear HK;clear HB;clear HI0;have HO_3:=n0_;have BK185:=n1_;have HK:=n2_;have HB:=n3_;have HI0:=n4_;clear n0_ n1_ n2_ n3_ n4_;(try clear hb);(try clear hk);(try clear hi)) | ((with_reducible refine gate_dst (N:=86) rfl ?_);refine Kd.R_lit Kd.string _ 9 ?hg (N:=86) ?hd (xs:=([(⟨#[]⟩ : ByteArray),(⟨#[65,66,67,48,48,48,49,90]⟩ : ByteArray),(⟨#[97,98,99]⟩ : ByteArray)] : List ByteArray)) (inner := [.string (⟨#[]⟩ : ByteArray), .string (⟨#[65,66,67,48,48,48,49,90]⟩ : ByteArray), .string (⟨#[97,98,99]⟩ : ByteArray)]) (ok:=fun _ => True) (okp:=fun _ => True) ?hr ?hp (fun _ hk => hk) trivial (Below.refl _ _) (Nat.le_refl _) (by simp) ?_;(case hd => rfl);(case hg => rfl);(case hr => (go_simp;done));(case hp => exact (Reps.one (show Kd.M Kd.string _ _ _ (⟨#[]⟩ : ByteArray) [.string (⟨#[]⟩ : ByteArray)] from rfl) (Reps.one (show Kd.M Kd.string _ _ _ (⟨#[65,66,67,48,48,48,49,90]⟩ : ByteArray) [.string (⟨#[65,66,67,48,48,48,49,90]⟩ : ByteArray)] from rfl) (Reps.one (show Kd.M Kd.string _ _ _ (⟨#[97,98,99]⟩ : ByteArray) [.string (⟨#[97,98,99]⟩ : ByteArray)] from rfl) (Reps.none _ _)))));intro v197 w90 ho91 hb hg_ hnew_;clear hg_ hnew_;(rw [← Ny196.out] at ho91);have n0_:=Aside0.mk (Kd.Q_below (by exact HO_3.out) hb);have n1_:=Aside0.mk (Kd.R_lower ho91 (keep_size (w:=w) (g:=g) (row:=none) (by exact HK.out)));have n2_:=Aside0.mk (IsS61.below (by exact HI0.out) hb);have n3_:=Aside0.mk (blk_below (g:=gb185) (o := .cells #[.int .i64 ((rd_T52 x3_1 t181).f0), .string ((rd_T52 x3_1 t181).f1), .bool ((rd_T52 x3_1 t181).f2), .int .i64 ((rd_T52 x3_1 t181).f3)] 52 (0,0)) (by exact BK185.out) hb);have n4_:=Aside0.mk (KeepBut.trans (by exact HK.out) (KeepBut.of_below hb g none) (.inl rfl));have n5_:=Aside0.mk (below_step (by exact HB.out) hb);clear HO_3;clear HI0;clear BK185;clear HK;clear HB;have HO_3:=n0_;have HO198:=n1_;have HI0:=n2_;have BK185:=n3_;have HK:=n4_;have HB:=n5_;clear n0_ n1_ n2_ n3_ n4_ n5_;clear hb ho91;obtain ⟨Ao92,co92,eo92⟩ := Kd.R_slice HO198.out;subst eo92) | ((with_reducible refine gate_callee (f:=57) rfl ?_);refine goesL_ (some 87) rfl rfl Try.func57 (by kernel_rfl) rfl #[.pointer (some ⟨g,0,none⟩), .slice Ao92 y196.length co92] rfl (by (try simp only [List.map_toArray,List.map_cons,List.map_nil]);rfl) ?_;(with_reducible refine (spec_l1Cur_of.calls g s0_0 t187 t188 _ _ y196 t199 t200 t201 w0 _ ?side1 ?side2 ?side3 ?side4 ?side5 A82.out).mono ?_);(case side1 => exact HI0.out);(case side2 => exact HB.out);(case side3 => repeat (exact (Kd.R_reads' HO198.out).2.2));(case side4 => exact (Kd.R_reads' HO198.out).2.1);(case side5 => exact far_slice (IsS61.own_ne HI0.out HO198.out (by decide)));rintro e w93 ⟨rfl,hi,hb,hk⟩;refine ⟨_,rfl, ?_⟩;have n0_:=Aside0.mk (Kd.Q_mono (Kd.Q_keep (IsS61.apartQ (show IsS61 w0 _ g s0_0 t187 t188 from by exact HI0.out) (by exact HO_3.out) (by decide)) hk (fun _ h => h.2)) (fun _ h => h.1));have n1_:=Aside0.mk (KeepBut.blk hk (g':=gb185) (o := .cells #[.int .i64 ((rd_T52 x3_1 t181).f0), .string ((rd_T52 x3_1 t181).f1), .bool ((rd_T52 x3_1 t181).f2), .int .i64 ((rd_T52 x3_1 t181).f3)] 52 (0,0)) (by exact BK185.out) NB185_0.out (by simp));have n2_:=Aside0.mk (Kd.R_mono (Kd.R_keep (IsS61.apart (show IsS61 w0 _ g s0_0 t187 t188 from by exact HI0.out) (by exact HO198.out) (by decide)) hk (fun _ h => h.2)) (fun _ h => h.1));have n3_:=Aside0.mk (KeepBut.trans (by exact HK.out) hk (.inl rfl));have n4_:=Aside0.mk (hb);have n5_:=Aside0.mk (hi);clear HO_3;clear BK185;clear HO198;clear HK;clear HB;clear HI0;have HO_3:=n0_;have BK185:=n1_;have HO198:=n2_;have HK:=n3_;have HB:=n4_;have HI0:=n5_;clear n0_ n1_ n2_ n3_ n4_ n5_;(try clear hb);(try clear hk);(try clear hi);have hcz94_0 : w93.cell? ⟨gb185,0,none⟩ = some (.int .i64 ((rd_T52 x3_1 t181).f0)):=(blk_cell BK185.out 0).trans rfl;have hcz94_1 : w93.cell? ⟨gb185,1,none⟩ = some (.string ((rd_T52 x3_1 t181).f1)):=(blk_cell BK185.out 1).trans rfl;have hcz94_2 : w93.cell? ⟨gb185,2,none⟩ = some (.bool ((rd_T52 x3_1 t181).f2)):=(blk_cell BK185.out 2).trans rfl;have hcz94_3 : w93.cell? ⟨gb185,3,none⟩ = some (.int .i64 ((rd_T52 x3_1 t181).f3)):=(blk_cell BK185.out 3).trans rfl;have hfz94_0:=blk_frozen BK185.out 0;have hfz94_1:=blk_frozen BK185.out 1;have hfz94_2:=blk_frozen BK185.out 2;have hfz94_3:=blk_frozen BK185.out 3) | ((with_reducible refine gate_store (t:=9) (p:=88) rfl ?_);refine store_event (t:=9) (p:=88) (v:=?vo_w95) (w1:=(w93.setCell ⟨gb185,1,none⟩ (.string t199))) ?hg ?ho ?hn ?hr ?_;(case ho => rfl);(case hg => rfl);(case hn => rfl);(case hr => (go_simp;done));intro w95 hw;have n0_ : Aside0 (Kd.Q k52 52 w95 w.heap.size (fun k_ => k_ ≠ gb185) (.slice (some ad184) x3_1.length co84) x3_1):=⟨(by rw [hw];exact (by exact Kd.Q_mono (Kd.Q_far (p:=⟨gb185,1,none⟩) (Kd.Q_mono HO_3.out (fun k_ hk => (⟨hk,hk.2⟩ : _ ∧ k_ ≠ gb185))) (fun _ hk => hk.2) (.string t199)) (fun _ hk => hk.1.2)))⟩;have n1_ : Aside0 (Kd.R Kd.string 9 w95 w.heap.size (fun _ => True) (.slice Ao92 y196.length co92) y196):=⟨(by rw [hw];exact (by exact Kd.R_mono (Kd.R_far (p:=⟨gb185,1,none⟩) (Kd.R_types HO198.out BK185.out (by decide)) (fun _ hk => hk.2) (.string t199)) (fun _ hk => trivial)))⟩;have n2_ : Aside0 (w95.heap[gb185]? = some (.cells #[.int .i64 ((rd_T52 x3_1 t181).f0), .string t199, .bool ((rd_T52 x3_1 t181).f2), .int .i64 ((rd_T52 x3_1 t181).f3)] 52 (0,0))):=⟨(by rw [hw];exact (by refine blk_put (cs:=#[.int .i64 ((rd_T52 x3_1 t181).f0), .string ((rd_T52 x3_1 t181).f1), .bool ((rd_T52 x3_1 t181).f2), .int .i64 ((rd_T52 x3_1 t181).f3)]) ?_ 1 _ rfl;exact BK185.out))⟩;have n3_ : Aside0 (IsS61 w0 w95 g s0_0 t200 t201):=⟨(by rw [hw];exact (by repeat ((with_reducible first | exact HI0.out | refine IsS61.far ?_ NB0_185.out _))))⟩;have n4_ : Aside0 (KeepBut w w95 g none):=⟨(by rw [hw];exact (by repeat ((with_reducible first | exact HK.out | refine keep_far ?_ GW185.out _))))⟩;have n5_ : Aside0 (Below w0.heap.size w0 w95):=⟨(by rw [hw];exact (by repeat ((with_reducible first | exact HB.out | refine below_set ?_ GE185.out))))⟩;clear hw;clear HO_3;clear HO198;clear BK185;clear HI0;clear HK;clear HB;have HO_3:=n0_;have HO198:=n1_;have BK185:=n2_;have HI0:=n3_;have HK:=n4_;have HB:=n5_;clear n0_ n1_ n2_ n3_ n4_ n5_;have hcz96_0 : w95.cell? ⟨gb185,0,none⟩ = some (.int .i64 ((rd_T52 x3_1 t181).f0)):=(blk_cell BK185.out 0).trans rfl;have hcz96_1 : w95.cell? ⟨gb185,1,none⟩ = some (.string t199):=(blk_cell BK185.out 1).trans rfl;have hcz96_2 : w95.cell? ⟨gb185,2,none⟩ = some (.bool ((rd_T52 x3_1 t181).f2)):=(blk_cell BK185.out 2).trans rfl;have hcz96_3 : w95.cell? ⟨gb185,3,none⟩ = some (.int .i64 ((rd_T52 x3_1 t181).f3)):=(blk_cell BK185.out 3).trans rfl;have hfz96_0:=blk_frozen BK185.out 0;have hfz96_1:=blk_frozen BK185.out 1;have hfz96_2:=blk_frozen BK185.out 2;have hfz96_3:=blk_frozen BK185.out 3;have p83 : 0 ≤ (t181 : Int):=of_decide_eq_true (by (with_reducible assumption));have q83 : (t181 : Int) < ((x3_1.length : Int) : Int):=of_decide_eq_true (by (with_reducible assumption));obtain ⟨go83,oo83,co83,eo83,gb83,gl83,cl83,HG83⟩ := Kd.Q_form HO_3.out (by omega);(cases eo83);have GB83:=Aside0.mk gb83;have GG83:=Aside0.mk HG83;clear gb83 gl83 HG83;(simp only [add_at] at hx184_0);(simp only [add_at] at hx184_1);(simp only [add_at] at hx184_2);(simp only [add_at] at hx184_3);obtain ⟨ce83,hcl83,hM83,hcc83,hfr83⟩ := Kd.Q_elem HO_3.out z52 (t181 : Int) p83 q83;obtain rfl:=k52_openM hM83;have hx83_0 : w95.cell? ⟨go83,oo83 + (t181 : Int).toNat * 4,none⟩ = some (.int .i64 ((rd_T52 x3_1 t181).f0)):=hcc83 0 _ rfl;have hx83_1 : w95.cell? ⟨go83,oo83 + (t181 : Int).toNat * 4 + 1,none⟩ = some (.string ((rd_T52 x3_1 t181).f1)):=hcc83 1 _ rfl;have hx83_2 : w95.cell? ⟨go83,oo83 + (t181 : Int).toNat * 4 + 2,none⟩ = some (.bool ((rd_T52 x3_1 t181).f2)):=hcc83 2 _ rfl;have hx83_3 : w95.cell? ⟨go83,oo83 + (t181 : Int).toNat * 4 + 3,none⟩ = some (.int .i64 ((rd_T52 x3_1 t181).f3)):=hcc83 3 _ rfl;have hf83_0 : w95.frozen? ⟨go83,oo83 + (t181 : Int).toNat * 4,none⟩ = false:=hfr83 0;have hf83_1 : w95.frozen? ⟨go83,oo83 + (t181 : Int).toNat * 4 + 1,none⟩ = false:=hfr83 1;have hf83_2 : w95.frozen? ⟨go83,oo83 + (t181 : Int).toNat * 4 + 2,none⟩ = false:=hfr83 2;have hf83_3 : w95.frozen? ⟨go83,oo83 + (t181 : Int).toNat * 4 + 3,none⟩ = false:=hfr83 3;clear hcl83 hcc83 hfr83;(try clear hM83);replace p83:=eq_true p83;replace q83:=eq_true q83;have HX97:=Aside0.mk (show Kd.Q k52 52 w95 w.heap.size (fun k_ => k_ ≠ gb185) (.slice (some ⟨go83,oo83,none⟩) x3_1.length co84) x3_1 from (by exact HO_3.out));obtain ⟨ce97,hcl97,hM97,hcc97,hfr97⟩ := Kd.Q_elem HX97.out z52 (t181 : Int) (of_decide_eq_true (by (with_reducible assumption))) (by have h_ : (t181 : Int) < ((x3_1.length : Int) : Int):=of_decide_eq_true (by (with_reducible assumption));exact h_);obtain rfl:=k52_openM hM97;have HP97:=Kd.Q_seg HX97.out (t181 : Int) (of_decide_eq_true (by (with_reducible assumption))) (by have h_ : (t181 : Int) < ((x3_1.length : Int) : Int):=of_decide_eq_true (by (with_reducible assumption));exact h_) (seg := [.int .i64 ((rd_T52 x3_1 t181).f0), .string t199, .bool ((rd_T52 x3_1 t181).f2), .int .i64 ((rd_T52 x3_1 t181).f3)]) (j:=0) hcl97 hcc97 (show 4 ≤ 4 from by decide) (x':=(⟨(rd_T52 x3_1 t181).f0,t199,(rd_T52 x3_1 t181).f2,(rd_T52 x3_1 t181).f3⟩ : S52)) (k52_mkM _ _ _ (⟨(rd_T52 x3_1 t181).f0,t199,(rd_T52 x3_1 t181).f2,(rd_T52 x3_1 t181).f3⟩ : S52) ) (fun _ hk => hk);have hx97_0:=hcc97 0 _ rfl;(try simp only [show (k52).sz = 4 from rfl,Nat.mul_one,Nat.add_zero] at hx97_0);have hf97_0:=hfr97 0;(try simp only [show (k52).sz = 4 from rfl,Nat.mul_one,Nat.add_zero] at hf97_0);have hx97_1:=hcc97 1 _ rfl;(try simp only [show (k52).sz = 4 from rfl,Nat.mul_one,Nat.add_zero] at hx97_1);have hf97_1:=hfr97 1;(try simp only [show (k52).sz = 4 from rfl,Nat.mul_one,Nat.add_zero] at hf97_1);have hx97_2:=hcc97 2 _ rfl;(try simp only [show (k52).sz = 4 from rfl,Nat.mul_one,Nat.add_zero] at hx97_2);have hf97_2:=hfr97 2;(try simp only [show (k52).sz = 4 from rfl,Nat.mul_one,Nat.add_zero] at hf97_2);have hx97_3:=hcc97 3 _ rfl;(try simp only [show (k52).sz = 4 from rfl,Nat.mul_one,Nat.add_zero] at hx97_3);have hf97_3:=hfr97 3;(try simp only [show (k52).sz = 4 from rfl,Nat.mul_one,Nat.add_zero] at hf97_3);clear hcl97 hcc97 hfr97;(try clear hM97)) | ((with_reducible refine gate_store (t:=52) (p:=140) rfl ?_);refine store_event (t:=52) (p:=140) (v:=?vo_w98) (w1:=((((w95.setCell ⟨go83,oo83 + (t181 : Int).toNat * 4,none⟩ (.int .i64 ((rd_T52 x3_1 t181).f0))).setCell ⟨go83,oo83 + (t181 : Int).toNat * 4 + 1,none⟩ (.string t199)).setCell ⟨go83,oo83 + (t181 : Int).toNat * 4 + 2,none⟩ (.bool ((rd_T52 x3_1 t181).f2))).setCell ⟨go83,oo83 + (t181 : Int).toNat * 4 + 3,none⟩ (.int .i64 ((rd_T52 x3_1 t181).f3)))) ?hg ?ho ?hn ?hr ?_;(case ho => rfl);(case hg => rfl);(case hn => rfl);(case hr => (go_simp;done));intro w98 hw;have hg : w95.grownBy w98 (some go83):=(by rw [hw];exact HP97.2);have hp_ : Kd.Q k52 52 w98 w.heap.size (fun k_ => k_ ≠ gb185) (.slice (some ⟨go83,oo83,none⟩) x3_1.length co84) y202:=(by rw [hw,Ny202.out];exact HP97.1);clear HP97;have n0_:=Aside0.mk (hp_);have n1_:=Aside0.mk (IsS61.grownX3 HI0.out (by exact HI0.out) hg (IsS61.own_neQ HI0.out HO_3.out (by decide)));have n2_:=Aside0.mk (blk_grown (g:=gb185) (o := .cells #[.int .i64 ((rd_T52 x3_1 t181).f0), .string t199, .bool ((rd_T52 x3_1 t181).f2), .int .i64 ((rd_T52 x3_1 t181).f3)] 52 (0,0)) (by exact BK185.out) hg (Kd.Q_away HO_3.out (fun _ hk => hk)));have n3_:=Aside0.mk (Kd.R_over' (v:=(.slice (some ⟨go83,oo83,none⟩) x3_1.length co84)) (by exact HO198.out) (Kd.Q_typed HO_3.out) (by decide) hg);have n4_:=Aside0.mk ((by rw [hw];exact below_set (below_set (below_set (below_set (HB.out) (Nat.le_trans HL.out GB83.out)) (Nat.le_trans HL.out GB83.out)) (Nat.le_trans HL.out GB83.out)) (Nat.le_trans HL.out GB83.out) : Below w0.heap.size w0 w98));have n5_:=Aside0.mk (KeepBut.trans (by exact HK.out) (KeepBut.of_grown hg g) (Kd.Q_base2 HO_3.out));clear HO_3;clear HI0;clear BK185;clear HO198;clear HB;clear HK;have HO_3:=n0_;have HI0:=n1_;have BK185:=n2_;have HO198:=n3_;have HB:=n4_;have HK:=n5_;clear n0_ n1_ n2_ n3_ n4_ n5_;clear hg hw hp_))
         go_ret
         exact ⟨_,by rfl,by exact Kd.Q_mono HO_3.out (fun _ hk => trivial),by exact HI0.out,by exact HB.out,by exact HK.out⟩
        ·rw [if_neg c81] at H
         have c81b0 : (t186 == 1) = false:=beq_eq_false_iff_ne.mpr c81
         have c81b1 : (t186 != 1) = true:=bne_iff_ne.mpr c81
         by_cases c99 : t186 = 2
         ·rw [if_pos c99] at H
          have c99b0 : (t186 == 2) = true:=beq_iff_eq.mpr c99
          have c99b1 : (t186 != 2) = false:=bne_eq_false_iff_eq.mpr c99
          clear c99
          obtain ⟨y203,hy203⟩ : ∃ y_ : List Int,y_ = (([0,16,15] : List Int)):=⟨_,rfl⟩
          replace H : ((spec_l1Cur_among.f s0_0 t187 t188 y203).bind fun bt206 => (some ((x3_1.set (t181 : Int).toNat (⟨(rd_T52 x3_1 t181).f0,(rd_T52 x3_1 t181).f1,(rd_T52 x3_1 t181).f2,bt206.1⟩ : S52)),bt206.2.1,bt206.2.2))) = some (r1,r2,r3):=by (rw [hy203];with_reducible exact H)
          have Ny203:=Aside0.mk hy203
          clear hy203
          replace H:=Option.bind_eq_some_iff.mp H
          obtain ⟨⟨t206,t207,t208⟩,A1000,H⟩ := H
          replace H : (some ((x3_1.set (t181 : Int).toNat (⟨(rd_T52 x3_1 t181).f0,(rd_T52 x3_1 t181).f1,(rd_T52 x3_1 t181).f2,t206⟩ : S52)),t207,t208)) = some (r1,r2,r3):=H
          have A100:=Aside0.mk A1000
          clear A1000
          obtain ⟨y209,hy209⟩ : ∃ y_ : List (S52),y_ = (x3_1.set (t181 : Int).toNat (⟨(rd_T52 x3_1 t181).f0,(rd_T52 x3_1 t181).f1,(rd_T52 x3_1 t181).f2,t206⟩ : S52)):=⟨_,rfl⟩
          replace H : (some (y209,t207,t208)) = some (r1,r2,r3):=by (rw [hy209];with_reducible exact H)
          have Ny209:=Aside0.mk hy209
          clear hy209
          simp only [Option.some.injEq,Prod.mk.injEq] at H
          obtain ⟨rfl,rfl,rfl⟩ := H
          obtain ⟨Ao102,co102,eo102,_⟩ := Kd.Q_slice HO_3.out
          subst eo102
          go_wp2_with (first | ((with_reducible refine gate_callee (f:=45) rfl ?_);refine goesL_ (some 70) rfl rfl Try.func45 (by kernel_rfl) rfl #[.pointer (some ⟨g,0,none⟩), .int .i64 (x3_1.length : Int)] rfl (by (try simp only [List.map_toArray,List.map_cons,List.map_nil]);rfl) ?_;(with_reducible refine (spec_l1Cur_pick.calls g s0_0 x1001_1 x1002_1 (x3_1.length : Int) t181 t182 t183 w0 _ ?side1 ?side2 A59.out).mono ?_);(case side1 => exact HI0.out);(case side2 => exact HB.out);rintro e w103 ⟨rfl,hi,hb,hk⟩;refine ⟨_,rfl, ?_⟩;have n0_:=Aside0.mk (Kd.Q_mono (Kd.Q_keep (IsS61.apartQ (show IsS61 w0 _ g s0_0 x1001_1 x1002_1 from by exact HI0.out) (by exact HO_3.out) (by decide)) hk (fun _ h => h.2)) (fun _ h => h.1));have n1_:=Aside0.mk (KeepBut.trans (by exact HK.out) hk (.inl rfl));have n2_:=Aside0.mk (hb);have n3_:=Aside0.mk (hi);clear HO_3;clear HK;clear HB;clear HI0;have HO_3:=n0_;have HK:=n1_;have HB:=n2_;have HI0:=n3_;clear n0_ n1_ n2_ n3_;(try clear hb);(try clear hk);(try clear hi);have p184 : 0 ≤ (t181 : Int):=of_decide_eq_true (by (with_reducible assumption));have q184 : t181 < (x3_1.length : Int):=of_decide_eq_true (by (with_reducible assumption));obtain ⟨ad184,e184,hx184_0,hx184_1,hx184_2,hx184_3⟩ := at_T52 (Kd.Q_reads' HO_3.out).2.2 t181 p184 q184;cases e184;replace p184:=eq_true p184;replace q184:=eq_true q184) | ((with_reducible refine gate_dst (N:=9) rfl ?_);refine box_event ?hg (N:=9) ?hd (cs:=#[.int .i64 0, .string (⟨#[]⟩ : ByteArray), .bool false, .int .i64 0]) (t:=52) ?hr ?_;(case hd => rfl);(case hg => rfl);(case hr => (go_simp;done));intro gb185 hg w104 hbox hb;have n0_:=Aside0.mk (Kd.Q_below (Kd.Q_elderB (by exact HO_3.out) gb185 (Nat.le_of_eq hg.symm)) hb);have n1_:=Aside0.mk (IsS61.below (by exact HI0.out) hb);have n2_:=Aside0.mk (KeepBut.trans (by exact HK.out) (KeepBut.of_below hb g none) (.inl rfl));have n3_:=Aside0.mk (below_step (by exact HB.out) hb);have n4_:=Aside0.mk (hbox);have n5_:=Aside0.mk ((by rw [hg];exact (keep_size (w:=w) (g:=g) (row:=none) (by exact HK.out)) : w.heap.size ≤ gb185));have n6_:=Aside0.mk ((Nat.le_trans HW0.out (by rw [hg];exact (keep_size (w:=w) (g:=g) (row:=none) (by exact HK.out)) : w.heap.size ≤ gb185) : w0.heap.size ≤ gb185));have n7_:=Aside0.mk ((by rw [hg];exact Nat.ne_of_lt (IsS61.lt (show IsS61 w0 _ g s0_0 t182 t183 from by exact HI0.out)) : g ≠ gb185));have n8_:=Aside0.mk ((by rw [hg];exact Nat.ne_of_gt (IsS61.lt (show IsS61 w0 _ g s0_0 t182 t183 from by exact HI0.out)) : gb185 ≠ g));clear HO_3;clear HI0;clear HK;clear HB;have HO_3:=n0_;have HI0:=n1_;have HK:=n2_;have HB:=n3_;have BK185:=n4_;have GW185:=n5_;have GE185:=n6_;have NB0_185:=n7_;have NB185_0:=n8_;clear n0_ n1_ n2_ n3_ n4_ n5_ n6_ n7_ n8_;clear hb hbox hg;have hnb105:=NB185_0.out;have hnc105:=NB0_185.out;have hcz106_0 : w104.cell? ⟨gb185,0,none⟩ = some (.int .i64 0):=(blk_cell BK185.out 0).trans rfl;have hcz106_1 : w104.cell? ⟨gb185,1,none⟩ = some (.string (⟨#[]⟩ : ByteArray)):=(blk_cell BK185.out 1).trans rfl;have hcz106_2 : w104.cell? ⟨gb185,2,none⟩ = some (.bool false):=(blk_cell BK185.out 2).trans rfl;have hcz106_3 : w104.cell? ⟨gb185,3,none⟩ = some (.int .i64 0):=(blk_cell BK185.out 3).trans rfl;have hfz106_0:=blk_frozen BK185.out 0;have hfz106_1:=blk_frozen BK185.out 1;have hfz106_2:=blk_frozen BK185.out 2;have hfz106_3:=blk_frozen BK185.out 3) | ((with_reducible refine gate_callee (f:=45) rfl ?_);refine goesL_ (some 76) rfl rfl Try.func45 (by kernel_rfl) rfl #[.pointer (some ⟨g,0,none⟩), .int .i64 40] rfl (by (try simp only [List.map_toArray,List.map_cons,List.map_nil]);rfl) ?_;(with_reducible refine (spec_l1Cur_pick.calls g s0_0 t182 t183 40 t186 t187 t188 w0 _ ?side1 ?side2 A62.out).mono ?_);(case side1 => repeat ((with_reducible first | exact HI0.out | refine IsS61.far ?_ NB0_185.out _)));(case side2 => repeat ((with_reducible first | exact HB.out | refine below_set ?_ GE185.out)));rintro e w107 ⟨rfl,hi,hb,hk⟩;refine ⟨_,rfl, ?_⟩;have n0_:=Aside0.mk (Kd.Q_mono (Kd.Q_keep (IsS61.apartQ (show IsS61 w0 _ g s0_0 t182 t183 from by repeat ((with_reducible first | exact HI0.out | refine IsS61.far ?_ NB0_185.out _))) (by exact (Kd.Q_mono (Kd.Q_far (p:=⟨gb185,3,none⟩) (Kd.Q_far (p:=⟨gb185,2,none⟩) (Kd.Q_far (p:=⟨gb185,1,none⟩) (Kd.Q_far (p:=⟨gb185,0,none⟩) (Kd.Q_mono HO_3.out (fun k_ hk => (⟨hk,hk.2⟩ : _ ∧ k_ ≠ gb185))) (fun _ hk => hk.2) (.int .i64 ((rd_T52 x3_1 t181).f0))) (fun _ hk => hk.2) (.string ((rd_T52 x3_1 t181).f1))) (fun _ hk => hk.2) (.bool ((rd_T52 x3_1 t181).f2))) (fun _ hk => hk.2) (.int .i64 ((rd_T52 x3_1 t181).f3))) (fun _ h_ => h_.1))) (by decide)) hk (fun _ h => h.2)) (fun _ h => h.1));have n1_:=Aside0.mk (KeepBut.blk hk (g':=gb185) (o := .cells #[.int .i64 ((rd_T52 x3_1 t181).f0), .string ((rd_T52 x3_1 t181).f1), .bool ((rd_T52 x3_1 t181).f2), .int .i64 ((rd_T52 x3_1 t181).f3)] 52 (0,0)) (by refine blk_put (cs:=#[.int .i64 ((rd_T52 x3_1 t181).f0), .string ((rd_T52 x3_1 t181).f1), .bool ((rd_T52 x3_1 t181).f2), .int .i64 0]) ?_ 3 _ rfl;refine blk_put (cs:=#[.int .i64 ((rd_T52 x3_1 t181).f0), .string ((rd_T52 x3_1 t181).f1), .bool false, .int .i64 0]) ?_ 2 _ rfl;refine blk_put (cs:=#[.int .i64 ((rd_T52 x3_1 t181).f0), .string (⟨#[]⟩ : ByteArray), .bool false, .int .i64 0]) ?_ 1 _ rfl;refine blk_put (cs:=#[.int .i64 0, .string (⟨#[]⟩ : ByteArray), .bool false, .int .i64 0]) ?_ 0 _ rfl;exact BK185.out) NB185_0.out (by simp));have n2_:=Aside0.mk (KeepBut.trans (by repeat ((with_reducible first | exact HK.out | refine keep_far ?_ GW185.out _))) hk (.inl rfl));have n3_:=Aside0.mk (hb);have n4_:=Aside0.mk (hi);clear HO_3;clear BK185;clear HK;clear HB;clear HI0;have HO_3:=n0_;have BK185:=n1_;have HK:=n2_;have HB:=n3_;have HI0:=n4_;clear n0_ n1_ n2_ n3_ n4_;(try clear hb);(try clear hk);(try clear hi)) | ((with_reducible refine gate_dst (N:=92) rfl ?_);refine Kd.R_lit (Kd.int .i64) _ 3 ?hg (N:=92) ?hd (xs:=([0,16,15] : List Int)) (inner := [.int .i64 0, .int .i64 16, .int .i64 15]) (ok:=fun _ => True) (okp:=fun _ => True) ?hr ?hp (fun _ hk => hk) trivial (Below.refl _ _) (Nat.le_refl _) (by simp) ?_;(case hd => rfl);(case hg => rfl);(case hr => (go_simp;done));(case hp => exact (Reps.one (show Kd.M (Kd.int .i64) _ _ _ 0 [.int .i64 0] from rfl) (Reps.one (show Kd.M (Kd.int .i64) _ _ _ 16 [.int .i64 16] from rfl) (Reps.one (show Kd.M (Kd.int .i64) _ _ _ 15 [.int .i64 15] from rfl) (Reps.none _ _)))));intro v204 w108 ho109 hb hg_ hnew_;clear hg_ hnew_;(rw [← Ny203.out] at ho109);have n0_:=Aside0.mk (Kd.Q_below (by exact HO_3.out) hb);have n1_:=Aside0.mk (Kd.R_lower ho109 (keep_size (w:=w) (g:=g) (row:=none) (by exact HK.out)));have n2_:=Aside0.mk (IsS61.below (by exact HI0.out) hb);have n3_:=Aside0.mk (blk_below (g:=gb185) (o := .cells #[.int .i64 ((rd_T52 x3_1 t181).f0), .string ((rd_T52 x3_1 t181).f1), .bool ((rd_T52 x3_1 t181).f2), .int .i64 ((rd_T52 x3_1 t181).f3)] 52 (0,0)) (by exact BK185.out) hb);have n4_:=Aside0.mk (KeepBut.trans (by exact HK.out) (KeepBut.of_below hb g none) (.inl rfl));have n5_:=Aside0.mk (below_step (by exact HB.out) hb);clear HO_3;clear HI0;clear BK185;clear HK;clear HB;have HO_3:=n0_;have HO205:=n1_;have HI0:=n2_;have BK185:=n3_;have HK:=n4_;have HB:=n5_;clear n0_ n1_ n2_ n3_ n4_ n5_;clear hb ho109;obtain ⟨Ao110,co110,eo110⟩ := Kd.R_slice HO205.out;subst eo110) | ((with_reducible refine gate_callee (f:=56) rfl ?_);refine goesL_ (some 93) rfl rfl Try.func56 (by kernel_rfl) rfl #[.pointer (some ⟨g,0,none⟩), .slice Ao110 y203.length co110] rfl (by (try simp only [List.map_toArray,List.map_cons,List.map_nil]);rfl) ?_;(with_reducible refine (spec_l1Cur_among.calls g s0_0 t187 t188 _ _ y203 t206 t207 t208 w0 _ ?side1 ?side2 ?side3 ?side4 ?side5 A100.out).mono ?_);(case side1 => exact HI0.out);(case side2 => exact HB.out);(case side3 => repeat (exact (Kd.R_reads' HO205.out).2.2));(case side4 => exact (Kd.R_reads' HO205.out).2.1);(case side5 => exact far_slice (IsS61.own_ne HI0.out HO205.out (by decide)));rintro e w111 ⟨rfl,hi,hb,hk⟩;refine ⟨_,rfl, ?_⟩;have n0_:=Aside0.mk (Kd.Q_mono (Kd.Q_keep (IsS61.apartQ (show IsS61 w0 _ g s0_0 t187 t188 from by exact HI0.out) (by exact HO_3.out) (by decide)) hk (fun _ h => h.2)) (fun _ h => h.1));have n1_:=Aside0.mk (KeepBut.blk hk (g':=gb185) (o := .cells #[.int .i64 ((rd_T52 x3_1 t181).f0), .string ((rd_T52 x3_1 t181).f1), .bool ((rd_T52 x3_1 t181).f2), .int .i64 ((rd_T52 x3_1 t181).f3)] 52 (0,0)) (by exact BK185.out) NB185_0.out (by simp));have n2_:=Aside0.mk (Kd.R_mono (Kd.R_keep (IsS61.apart (show IsS61 w0 _ g s0_0 t187 t188 from by exact HI0.out) (by exact HO205.out) (by decide)) hk (fun _ h => h.2)) (fun _ h => h.1));have n3_:=Aside0.mk (KeepBut.trans (by exact HK.out) hk (.inl rfl));have n4_:=Aside0.mk (hb);have n5_:=Aside0.mk (hi);clear HO_3;clear BK185;clear HO205;clear HK;clear HB;clear HI0;have HO_3:=n0_;have BK185:=n1_;have HO205:=n2_;have HK:=n3_;have HB:=n4_;have HI0:=n5_;clear n0_ n1_ n2_ n3_ n4_ n5_;(try clear hb);(try clear hk);(try clear hi);have hcz112_0 : w111.cell? ⟨gb185,0,none⟩ = some (.int .i64 ((rd_T52 x3_1 t181).f0)):=(blk_cell BK185.out 0).trans rfl;have hcz112_1 : w111.cell? ⟨gb185,1,none⟩ = some (.string ((rd_T52 x3_1 t181).f1)):=(blk_cell BK185.out 1).trans rfl;have hcz112_2 : w111.cell? ⟨gb185,2,none⟩ = some (.bool ((rd_T52 x3_1 t181).f2)):=(blk_cell BK185.out 2).trans rfl;have hcz112_3 : w111.cell? ⟨gb185,3,none⟩ = some (.int .i64 ((rd_T52 x3_1 t181).f3)):=(blk_cell BK185.out 3).trans rfl;have hfz112_0:=blk_frozen BK185.out 0;have hfz112_1:=blk_frozen BK185.out 1;have hfz112_2:=blk_frozen BK185.out 2;have hfz112_3:=blk_frozen BK185.out 3) | ((with_reducible refine gate_store (t:=3) (p:=94) rfl ?_);refine store_event (t:=3) (p:=94) (v:=?vo_w113) (w1:=(w111.setCell ⟨gb185,3,none⟩ (.int .i64 t206))) ?hg ?ho ?hn ?hr ?_;(case ho => rfl);(case hg => rfl);(case hn => rfl);(case hr => (go_simp;done));intro w113 hw;have n0_ : Aside0 (Kd.Q k52 52 w113 w.heap.size (fun k_ => k_ ≠ gb185) (.slice (some ad184) x3_1.length co102) x3_1):=⟨(by rw [hw];exact (by exact Kd.Q_mono (Kd.Q_far (p:=⟨gb185,3,none⟩) (Kd.Q_mono HO_3.out (fun k_ hk => (⟨hk,hk.2⟩ : _ ∧ k_ ≠ gb185))) (fun _ hk => hk.2) (.int .i64 t206)) (fun _ hk => hk.1.2)))⟩;have n1_ : Aside0 (Kd.R (Kd.int .i64) 3 w113 w.heap.size (fun _ => True) (.slice Ao110 y203.length co110) y203):=⟨(by rw [hw];exact (by exact Kd.R_mono (Kd.R_far (p:=⟨gb185,3,none⟩) (Kd.R_types HO205.out BK185.out (by decide)) (fun _ hk => hk.2) (.int .i64 t206)) (fun _ hk => trivial)))⟩;have n2_ : Aside0 (w113.heap[gb185]? = some (.cells #[.int .i64 ((rd_T52 x3_1 t181).f0), .string ((rd_T52 x3_1 t181).f1), .bool ((rd_T52 x3_1 t181).f2), .int .i64 t206] 52 (0,0))):=⟨(by rw [hw];exact (by refine blk_put (cs:=#[.int .i64 ((rd_T52 x3_1 t181).f0), .string ((rd_T52 x3_1 t181).f1), .bool ((rd_T52 x3_1 t181).f2), .int .i64 ((rd_T52 x3_1 t181).f3)]) ?_ 3 _ rfl;exact BK185.out))⟩;have n3_ : Aside0 (IsS61 w0 w113 g s0_0 t207 t208):=⟨(by rw [hw];exact (by repeat ((with_reducible first | exact HI0.out | refine IsS61.far ?_ NB0_185.out _))))⟩;have n4_ : Aside0 (KeepBut w w113 g none):=⟨(by rw [hw];exact (by repeat ((with_reducible first | exact HK.out | refine keep_far ?_ GW185.out _))))⟩;have n5_ : Aside0 (Below w0.heap.size w0 w113):=⟨(by rw [hw];exact (by repeat ((with_reducible first | exact HB.out | refine below_set ?_ GE185.out))))⟩;clear hw;clear HO_3;clear HO205;clear BK185;clear HI0;clear HK;clear HB;have HO_3:=n0_;have HO205:=n1_;have BK185:=n2_;have HI0:=n3_;have HK:=n4_;have HB:=n5_;clear n0_ n1_ n2_ n3_ n4_ n5_;have hcz114_0 : w113.cell? ⟨gb185,0,none⟩ = some (.int .i64 ((rd_T52 x3_1 t181).f0)):=(blk_cell BK185.out 0).trans rfl;have hcz114_1 : w113.cell? ⟨gb185,1,none⟩ = some (.string ((rd_T52 x3_1 t181).f1)):=(blk_cell BK185.out 1).trans rfl;have hcz114_2 : w113.cell? ⟨gb185,2,none⟩ = some (.bool ((rd_T52 x3_1 t181).f2)):=(blk_cell BK185.out 2).trans rfl;have hcz114_3 : w113.cell? ⟨gb185,3,none⟩ = some (.int .i64 t206):=(blk_cell BK185.out 3).trans rfl;have hfz114_0:=blk_frozen BK185.out 0;have hfz114_1:=blk_frozen BK185.out 1;have hfz114_2:=blk_frozen BK185.out 2;have hfz114_3:=blk_frozen BK185.out 3;have p101 : 0 ≤ (t181 : Int):=of_decide_eq_true (by (with_reducible assumption));have q101 : (t181 : Int) < ((x3_1.length : Int) : Int):=of_decide_eq_true (by (with_reducible assumption));obtain ⟨go101,oo101,co101,eo101,gb101,gl101,cl101,HG101⟩ := Kd.Q_form HO_3.out (by omega);(cases eo101);have GB101:=Aside0.mk gb101;have GG101:=Aside0.mk HG101;clear gb101 gl101 HG101;(simp only [add_at] at hx184_0);(simp only [add_at] at hx184_1);(simp only [add_at] at hx184_2);(simp only [add_at] at hx184_3);obtain ⟨ce101,hcl101,hM101,hcc101,hfr101⟩ := Kd.Q_elem HO_3.out z52 (t181 : Int) p101 q101;obtain rfl:=k52_openM hM101;have hx101_0 : w113.cell? ⟨go101,oo101 + (t181 : Int).toNat * 4,none⟩ = some (.int .i64 ((rd_T52 x3_1 t181).f0)):=hcc101 0 _ rfl;have hx101_1 : w113.cell? ⟨go101,oo101 + (t181 : Int).toNat * 4 + 1,none⟩ = some (.string ((rd_T52 x3_1 t181).f1)):=hcc101 1 _ rfl;have hx101_2 : w113.cell? ⟨go101,oo101 + (t181 : Int).toNat * 4 + 2,none⟩ = some (.bool ((rd_T52 x3_1 t181).f2)):=hcc101 2 _ rfl;have hx101_3 : w113.cell? ⟨go101,oo101 + (t181 : Int).toNat * 4 + 3,none⟩ = some (.int .i64 ((rd_T52 x3_1 t181).f3)):=hcc101 3 _ rfl;have hf101_0 : w113.frozen? ⟨go101,oo101 + (t181 : Int).toNat * 4,none⟩ = false:=hfr101 0;have hf101_1 : w113.frozen? ⟨go101,oo101 + (t181 : Int).toNat * 4 + 1,none⟩ = false:=hfr101 1;have hf101_2 : w113.frozen? ⟨go101,oo101 + (t181 : Int).toNat * 4 + 2,none⟩ = false:=hfr101 2;have hf101_3 : w113.frozen? ⟨go101,oo101 + (t181 : Int).toNat * 4 + 3,none⟩ = false:=hfr101 3;clear hcl101 hcc101 hfr101;(try clear hM101);replace p101:=eq_true p101;replace q101:=eq_true q101;have HX115:=Aside0.mk (show Kd.Q k52 52 w113 w.heap.size (fun k_ => k_ ≠ gb185) (.slice (some ⟨go101,oo101,none⟩) x3_1.length co102) x3_1 from (by exact HO_3.out));obtain ⟨ce115,hcl115,hM115,hcc115,hfr115⟩ := Kd.Q_elem HX115.out z52 (t181 : Int) (of_decide_eq_true (by (with_reducible assumption))) (by have h_ : (t181 : Int) < ((x3_1.length : Int) : Int):=of_decide_eq_true (by (with_reducible assumption));exact h_);obtain rfl:=k52_openM hM115;have HP115:=Kd.Q_seg HX115.out (t181 : Int) (of_decide_eq_true (by (with_reducible assumption))) (by have h_ : (t181 : Int) < ((x3_1.length : Int) : Int):=of_decide_eq_true (by (with_reducible assumption));exact h_) (seg := [.int .i64 ((rd_T52 x3_1 t181).f0), .string ((rd_T52 x3_1 t181).f1), .bool ((rd_T52 x3_1 t181).f2), .int .i64 t206]) (j:=0) hcl115 hcc115 (show 4 ≤ 4 from by decide) (x':=(⟨(rd_T52 x3_1 t181).f0,(rd_T52 x3_1 t181).f1,(rd_T52 x3_1 t181).f2,t206⟩ : S52)) (k52_mkM _ _ _ (⟨(rd_T52 x3_1 t181).f0,(rd_T52 x3_1 t181).f1,(rd_T52 x3_1 t181).f2,t206⟩ : S52) ) (fun _ hk => hk);have hx115_0:=hcc115 0 _ rfl;(try simp only [show (k52).sz = 4 from rfl,Nat.mul_one,Nat.add_zero] at hx115_0);have hf115_0:=hfr115 0;(try simp only [show (k52).sz = 4 from rfl,Nat.mul_one,Nat.add_zero] at hf115_0);have hx115_1:=hcc115 1 _ rfl;(try simp only [show (k52).sz = 4 from rfl,Nat.mul_one,Nat.add_zero] at hx115_1);have hf115_1:=hfr115 1;(try simp only [show (k52).sz = 4 from rfl,Nat.mul_one,Nat.add_zero] at hf115_1);have hx115_2:=hcc115 2 _ rfl;(try simp only [show (k52).sz = 4 from rfl,Nat.mul_one,Nat.add_zero] at hx115_2);have hf115_2:=hfr115 2;(try simp only [show (k52).sz = 4 from rfl,Nat.mul_one,Nat.add_zero] at hf115_2);have hx115_3:=hcc115 3 _ rfl;(try simp only [show (k52).sz = 4 from rfl,Nat.mul_one,Nat.add_zero] at hx115_3);have hf115_3:=hfr115 3;(try simp only [show (k52).sz = 4 from rfl,Nat.mul_one,Nat.add_zero] at hf115_3);clear hcl115 hcc115 hfr115;(try clear hM115)) | ((with_reducible refine gate_store (t:=52) (p:=140) rfl ?_);refine store_event (t:=52) (p:=140) (v:=?vo_w116) (w1:=((((w113.setCell ⟨go101,oo101 + (t181 : Int).toNat * 4,none⟩ (.int .i64 ((rd_T52 x3_1 t181).f0))).setCell ⟨go101,oo101 + (t181 : Int).toNat * 4 + 1,none⟩ (.string ((rd_T52 x3_1 t181).f1))).setCell ⟨go101,oo101 + (t181 : Int).toNat * 4 + 2,none⟩ (.bool ((rd_T52 x3_1 t181).f2))).setCell ⟨go101,oo101 + (t181 : Int).toNat * 4 + 3,none⟩ (.int .i64 t206))) ?hg ?ho ?hn ?hr ?_;(case ho => rfl);(case hg => rfl);(case hn => rfl);(case hr => (go_simp;done));intro w116 hw;have hg : w113.grownBy w116 (some go101):=(by rw [hw];exact HP115.2);have hp_ : Kd.Q k52 52 w116 w.heap.size (fun k_ => k_ ≠ gb185) (.slice (some ⟨go101,oo101,none⟩) x3_1.length co102) y209:=(by rw [hw,Ny209.out];exact HP115.1);clear HP115;have n0_:=Aside0.mk (hp_);have n1_:=Aside0.mk (IsS61.grownX3 HI0.out (by exact HI0.out) hg (IsS61.own_neQ HI0.out HO_3.out (by decide)));have n2_:=Aside0.mk (blk_grown (g:=gb185) (o := .cells #[.int .i64 ((rd_T52 x3_1 t181).f0), .string ((rd_T52 x3_1 t181).f1), .bool ((rd_T52 x3_1 t181).f2), .int .i64 t206] 52 (0,0)) (by exact BK185.out) hg (Kd.Q_away HO_3.out (fun _ hk => hk)));have n3_:=Aside0.mk (Kd.R_over' (v:=(.slice (some ⟨go101,oo101,none⟩) x3_1.length co102)) (by exact HO205.out) (Kd.Q_typed HO_3.out) (by decide) hg);have n4_:=Aside0.mk ((by rw [hw];exact below_set (below_set (below_set (below_set (HB.out) (Nat.le_trans HL.out GB101.out)) (Nat.le_trans HL.out GB101.out)) (Nat.le_trans HL.out GB101.out)) (Nat.le_trans HL.out GB101.out) : Below w0.heap.size w0 w116));have n5_:=Aside0.mk (KeepBut.trans (by exact HK.out) (KeepBut.of_grown hg g) (Kd.Q_base2 HO_3.out));clear HO_3;clear HI0;clear BK185;clear HO205;clear HB;clear HK;have HO_3:=n0_;have HI0:=n1_;have BK185:=n2_;have HO205:=n3_;have HB:=n4_;have HK:=n5_;clear n0_ n1_ n2_ n3_ n4_ n5_;clear hg hw hp_))
          go_ret
          exact ⟨_,by rfl,by exact Kd.Q_mono HO_3.out (fun _ hk => trivial),by exact HI0.out,by exact HB.out,by exact HK.out⟩
         ·rw [if_neg c99] at H
          have c99b0 : (t186 == 2) = false:=beq_eq_false_iff_ne.mpr c99
          have c99b1 : (t186 != 2) = true:=bne_iff_ne.mpr c99
          by_cases c117 : t186 = 3
          ·rw [if_pos c117] at H
           have c117b0 : (t186 == 3) = true:=beq_iff_eq.mpr c117
           have c117b1 : (t186 != 3) = false:=bne_eq_false_iff_eq.mpr c117
           clear c117
           obtain ⟨y210,hy210⟩ : ∃ y_ : List (S52),y_ = (x3_1.set (t181 : Int).toNat (⟨(rd_T52 x3_1 t181).f0,(rd_T52 x3_1 t181).f1,!((rd_T52 x3_1 t181).f2),(rd_T52 x3_1 t181).f3⟩ : S52)):=⟨_,rfl⟩
           replace H : (some (y210,t187,t188)) = some (r1,r2,r3):=by (rw [hy210];with_reducible exact H)
           have Ny210:=Aside0.mk hy210
           clear hy210
           simp only [Option.some.injEq,Prod.mk.injEq] at H
           obtain ⟨rfl,rfl,rfl⟩ := H
           obtain ⟨Ao119,co119,eo119,_⟩ := Kd.Q_slice HO_3.out
           subst eo119
           go_wp2_with (first | ((with_reducible refine gate_callee (f:=45) rfl ?_);refine goesL_ (some 70) rfl rfl Try.func45 (by kernel_rfl) rfl #[.pointer (some ⟨g,0,none⟩), .int .i64 (x3_1.length : Int)] rfl (by (try simp only [List.map_toArray,List.map_cons,List.map_nil]);rfl) ?_;(with_reducible refine (spec_l1Cur_pick.calls g s0_0 x1001_1 x1002_1 (x3_1.length : Int) t181 t182 t183 w0 _ ?side1 ?side2 A59.out).mono ?_);(case side1 => exact HI0.out);(case side2 => exact HB.out);rintro e w120 ⟨rfl,hi,hb,hk⟩;refine ⟨_,rfl, ?_⟩;have n0_:=Aside0.mk (Kd.Q_mono (Kd.Q_keep (IsS61.apartQ (show IsS61 w0 _ g s0_0 x1001_1 x1002_1 from by exact HI0.out) (by exact HO_3.out) (by decide)) hk (fun _ h => h.2)) (fun _ h => h.1));have n1_:=Aside0.mk (KeepBut.trans (by exact HK.out) hk (.inl rfl));have n2_:=Aside0.mk (hb);have n3_:=Aside0.mk (hi);clear HO_3;clear HK;clear HB;clear HI0;have HO_3:=n0_;have HK:=n1_;have HB:=n2_;have HI0:=n3_;clear n0_ n1_ n2_ n3_;(try clear hb);(try clear hk);(try clear hi);have p184 : 0 ≤ (t181 : Int):=of_decide_eq_true (by (with_reducible assumption));have q184 : t181 < (x3_1.length : Int):=of_decide_eq_true (by (with_reducible assumption));obtain ⟨ad184,e184,hx184_0,hx184_1,hx184_2,hx184_3⟩ := at_T52 (Kd.Q_reads' HO_3.out).2.2 t181 p184 q184;cases e184;replace p184:=eq_true p184;replace q184:=eq_true q184) | ((with_reducible refine gate_dst (N:=9) rfl ?_);refine box_event ?hg (N:=9) ?hd (cs:=#[.int .i64 0, .string (⟨#[]⟩ : ByteArray), .bool false, .int .i64 0]) (t:=52) ?hr ?_;(case hd => rfl);(case hg => rfl);(case hr => (go_simp;done));intro gb185 hg w121 hbox hb;have n0_:=Aside0.mk (Kd.Q_below (Kd.Q_elderB (by exact HO_3.out) gb185 (Nat.le_of_eq hg.symm)) hb);have n1_:=Aside0.mk (IsS61.below (by exact HI0.out) hb);have n2_:=Aside0.mk (KeepBut.trans (by exact HK.out) (KeepBut.of_below hb g none) (.inl rfl));have n3_:=Aside0.mk (below_step (by exact HB.out) hb);have n4_:=Aside0.mk (hbox);have n5_:=Aside0.mk ((by rw [hg];exact (keep_size (w:=w) (g:=g) (row:=none) (by exact HK.out)) : w.heap.size ≤ gb185));have n6_:=Aside0.mk ((Nat.le_trans HW0.out (by rw [hg];exact (keep_size (w:=w) (g:=g) (row:=none) (by exact HK.out)) : w.heap.size ≤ gb185) : w0.heap.size ≤ gb185));have n7_:=Aside0.mk ((by rw [hg];exact Nat.ne_of_lt (IsS61.lt (show IsS61 w0 _ g s0_0 t182 t183 from by exact HI0.out)) : g ≠ gb185));have n8_:=Aside0.mk ((by rw [hg];exact Nat.ne_of_gt (IsS61.lt (show IsS61 w0 _ g s0_0 t182 t183 from by exact HI0.out)) : gb185 ≠ g));clear HO_3;clear HI0;clear HK;clear HB;have HO_3:=n0_;have HI0:=n1_;have HK:=n2_;have HB:=n3_;have BK185:=n4_;have GW185:=n5_;have GE185:=n6_;have NB0_185:=n7_;have NB185_0:=n8_;clear n0_ n1_ n2_ n3_ n4_ n5_ n6_ n7_ n8_;clear hb hbox hg;have hnb122:=NB185_0.out;have hnc122:=NB0_185.out;have hcz123_0 : w121.cell? ⟨gb185,0,none⟩ = some (.int .i64 0):=(blk_cell BK185.out 0).trans rfl;have hcz123_1 : w121.cell? ⟨gb185,1,none⟩ = some (.string (⟨#[]⟩ : ByteArray)):=(blk_cell BK185.out 1).trans rfl;have hcz123_2 : w121.cell? ⟨gb185,2,none⟩ = some (.bool false):=(blk_cell BK185.out 2).trans rfl;have hcz123_3 : w121.cell? ⟨gb185,3,none⟩ = some (.int .i64 0):=(blk_cell BK185.out 3).trans rfl;have hfz123_0:=blk_frozen BK185.out 0;have hfz123_1:=blk_frozen BK185.out 1;have hfz123_2:=blk_frozen BK185.out 2;have hfz123_3:=blk_frozen BK185.out 3) | ((with_reducible refine gate_callee (f:=45) rfl ?_);refine goesL_ (some 76) rfl rfl Try.func45 (by kernel_rfl) rfl #[.pointer (some ⟨g,0,none⟩), .int .i64 40] rfl (by (try simp only [List.map_toArray,List.map_cons,List.map_nil]);rfl) ?_;(with_reducible refine (spec_l1Cur_pick.calls g s0_0 t182 t183 40 t186 t187 t188 w0 _ ?side1 ?side2 A62.out).mono ?_);(case side1 => repeat ((with_reducible first | exact HI0.out | refine IsS61.far ?_ NB0_185.out _)));(case side2 => repeat ((with_reducible first | exact HB.out | refine below_set ?_ GE185.out)));rintro e w124 ⟨rfl,hi,hb,hk⟩;refine ⟨_,rfl, ?_⟩;have n0_:=Aside0.mk (Kd.Q_mono (Kd.Q_keep (IsS61.apartQ (show IsS61 w0 _ g s0_0 t182 t183 from by repeat ((with_reducible first | exact HI0.out | refine IsS61.far ?_ NB0_185.out _))) (by exact (Kd.Q_mono (Kd.Q_far (p:=⟨gb185,3,none⟩) (Kd.Q_far (p:=⟨gb185,2,none⟩) (Kd.Q_far (p:=⟨gb185,1,none⟩) (Kd.Q_far (p:=⟨gb185,0,none⟩) (Kd.Q_mono HO_3.out (fun k_ hk => (⟨hk,hk.2⟩ : _ ∧ k_ ≠ gb185))) (fun _ hk => hk.2) (.int .i64 ((rd_T52 x3_1 t181).f0))) (fun _ hk => hk.2) (.string ((rd_T52 x3_1 t181).f1))) (fun _ hk => hk.2) (.bool ((rd_T52 x3_1 t181).f2))) (fun _ hk => hk.2) (.int .i64 ((rd_T52 x3_1 t181).f3))) (fun _ h_ => h_.1))) (by decide)) hk (fun _ h => h.2)) (fun _ h => h.1));have n1_:=Aside0.mk (KeepBut.blk hk (g':=gb185) (o := .cells #[.int .i64 ((rd_T52 x3_1 t181).f0), .string ((rd_T52 x3_1 t181).f1), .bool ((rd_T52 x3_1 t181).f2), .int .i64 ((rd_T52 x3_1 t181).f3)] 52 (0,0)) (by refine blk_put (cs:=#[.int .i64 ((rd_T52 x3_1 t181).f0), .string ((rd_T52 x3_1 t181).f1), .bool ((rd_T52 x3_1 t181).f2), .int .i64 0]) ?_ 3 _ rfl;refine blk_put (cs:=#[.int .i64 ((rd_T52 x3_1 t181).f0), .string ((rd_T52 x3_1 t181).f1), .bool false, .int .i64 0]) ?_ 2 _ rfl;refine blk_put (cs:=#[.int .i64 ((rd_T52 x3_1 t181).f0), .string (⟨#[]⟩ : ByteArray), .bool false, .int .i64 0]) ?_ 1 _ rfl;refine blk_put (cs:=#[.int .i64 0, .string (⟨#[]⟩ : ByteArray), .bool false, .int .i64 0]) ?_ 0 _ rfl;exact BK185.out) NB185_0.out (by simp));have n2_:=Aside0.mk (KeepBut.trans (by repeat ((with_reducible first | exact HK.out | refine keep_far ?_ GW185.out _))) hk (.inl rfl));have n3_:=Aside0.mk (hb);have n4_:=Aside0.mk (hi);clear HO_3;clear BK185;clear HK;clear HB;clear HI0;have HO_3:=n0_;have BK185:=n1_;have HK:=n2_;have HB:=n3_;have HI0:=n4_;clear n0_ n1_ n2_ n3_ n4_;(try clear hb);(try clear hk);(try clear hi);have hcz125_0 : w124.cell? ⟨gb185,0,none⟩ = some (.int .i64 ((rd_T52 x3_1 t181).f0)):=(blk_cell BK185.out 0).trans rfl;have hcz125_1 : w124.cell? ⟨gb185,1,none⟩ = some (.string ((rd_T52 x3_1 t181).f1)):=(blk_cell BK185.out 1).trans rfl;have hcz125_2 : w124.cell? ⟨gb185,2,none⟩ = some (.bool ((rd_T52 x3_1 t181).f2)):=(blk_cell BK185.out 2).trans rfl;have hcz125_3 : w124.cell? ⟨gb185,3,none⟩ = some (.int .i64 ((rd_T52 x3_1 t181).f3)):=(blk_cell BK185.out 3).trans rfl;have hfz125_0:=blk_frozen BK185.out 0;have hfz125_1:=blk_frozen BK185.out 1;have hfz125_2:=blk_frozen BK185.out 2;have hfz125_3:=blk_frozen BK185.out 3) | ((with_reducible refine gate_store (t:=4) (p:=100) rfl ?_);refine store_event (t:=4) (p:=100) (v:=?vo_w126) (w1:=(w124.setCell ⟨gb185,2,none⟩ (.bool (!((rd_T52 x3_1 t181).f2))))) ?hg ?ho ?hn ?hr ?_;(case ho => rfl);(case hg => rfl);(case hn => rfl);(case hr => (go_simp;done));intro w126 hw;have n0_ : Aside0 (Kd.Q k52 52 w126 w.heap.size (fun k_ => k_ ≠ gb185) (.slice (some ad184) x3_1.length co119) x3_1):=⟨(by rw [hw];exact (by exact Kd.Q_mono (Kd.Q_far (p:=⟨gb185,2,none⟩) (Kd.Q_mono HO_3.out (fun k_ hk => (⟨hk,hk.2⟩ : _ ∧ k_ ≠ gb185))) (fun _ hk => hk.2) (.bool (!((rd_T52 x3_1 t181).f2)))) (fun _ hk => hk.1.2)))⟩;have n1_ : Aside0 (w126.heap[gb185]? = some (.cells #[.int .i64 ((rd_T52 x3_1 t181).f0), .string ((rd_T52 x3_1 t181).f1), .bool (!((rd_T52 x3_1 t181).f2)), .int .i64 ((rd_T52 x3_1 t181).f3)] 52 (0,0))):=⟨(by rw [hw];exact (by refine blk_put (cs:=#[.int .i64 ((rd_T52 x3_1 t181).f0), .string ((rd_T52 x3_1 t181).f1), .bool ((rd_T52 x3_1 t181).f2), .int .i64 ((rd_T52 x3_1 t181).f3)]) ?_ 2 _ rfl;exact BK185.out))⟩;have n2_ : Aside0 (IsS61 w0 w126 g s0_0 t187 t188):=⟨(by rw [hw];exact (by repeat ((with_reducible first | exact HI0.out | refine IsS61.far ?_ NB0_185.out _))))⟩;have n3_ : Aside0 (KeepBut w w126 g none):=⟨(by rw [hw];exact (by repeat ((with_reducible first | exact HK.out | refine keep_far ?_ GW185.out _))))⟩;have n4_ : Aside0 (Below w0.heap.size w0 w126):=⟨(by rw [hw];exact (by repeat ((with_reducible first | exact HB.out | refine below_set ?_ GE185.out))))⟩;clear hw;clear HO_3;clear BK185;clear HI0;clear HK;clear HB;have HO_3:=n0_;have BK185:=n1_;have HI0:=n2_;have HK:=n3_;have HB:=n4_;clear n0_ n1_ n2_ n3_ n4_;have hcz127_0 : w126.cell? ⟨gb185,0,none⟩ = some (.int .i64 ((rd_T52 x3_1 t181).f0)):=(blk_cell BK185.out 0).trans rfl;have hcz127_1 : w126.cell? ⟨gb185,1,none⟩ = some (.string ((rd_T52 x3_1 t181).f1)):=(blk_cell BK185.out 1).trans rfl;have hcz127_2 : w126.cell? ⟨gb185,2,none⟩ = some (.bool (!((rd_T52 x3_1 t181).f2))):=(blk_cell BK185.out 2).trans rfl;have hcz127_3 : w126.cell? ⟨gb185,3,none⟩ = some (.int .i64 ((rd_T52 x3_1 t181).f3)):=(blk_cell BK185.out 3).trans rfl;have hfz127_0:=blk_frozen BK185.out 0;have hfz127_1:=blk_frozen BK185.out 1;have hfz127_2:=blk_frozen BK185.out 2;have hfz127_3:=blk_frozen BK185.out 3;have p118 : 0 ≤ (t181 : Int):=of_decide_eq_true (by (with_reducible assumption));have q118 : (t181 : Int) < ((x3_1.length : Int) : Int):=of_decide_eq_true (by (with_reducible assumption));obtain ⟨go118,oo118,co118,eo118,gb118,gl118,cl118,HG118⟩ := Kd.Q_form HO_3.out (by omega);(cases eo118);have GB118:=Aside0.mk gb118;have GG118:=Aside0.mk HG118;clear gb118 gl118 HG118;(simp only [add_at] at hx184_0);(simp only [add_at] at hx184_1);(simp only [add_at] at hx184_2);(simp only [add_at] at hx184_3);obtain ⟨ce118,hcl118,hM118,hcc118,hfr118⟩ := Kd.Q_elem HO_3.out z52 (t181 : Int) p118 q118;obtain rfl:=k52_openM hM118;have hx118_0 : w126.cell? ⟨go118,oo118 + (t181 : Int).toNat * 4,none⟩ = some (.int .i64 ((rd_T52 x3_1 t181).f0)):=hcc118 0 _ rfl;have hx118_1 : w126.cell? ⟨go118,oo118 + (t181 : Int).toNat * 4 + 1,none⟩ = some (.string ((rd_T52 x3_1 t181).f1)):=hcc118 1 _ rfl;have hx118_2 : w126.cell? ⟨go118,oo118 + (t181 : Int).toNat * 4 + 2,none⟩ = some (.bool ((rd_T52 x3_1 t181).f2)):=hcc118 2 _ rfl;have hx118_3 : w126.cell? ⟨go118,oo118 + (t181 : Int).toNat * 4 + 3,none⟩ = some (.int .i64 ((rd_T52 x3_1 t181).f3)):=hcc118 3 _ rfl;have hf118_0 : w126.frozen? ⟨go118,oo118 + (t181 : Int).toNat * 4,none⟩ = false:=hfr118 0;have hf118_1 : w126.frozen? ⟨go118,oo118 + (t181 : Int).toNat * 4 + 1,none⟩ = false:=hfr118 1;have hf118_2 : w126.frozen? ⟨go118,oo118 + (t181 : Int).toNat * 4 + 2,none⟩ = false:=hfr118 2;have hf118_3 : w126.frozen? ⟨go118,oo118 + (t181 : Int).toNat * 4 + 3,none⟩ = false:=hfr118 3;clear hcl118 hcc118 hfr118;(try clear hM118);replace p118:=eq_true p118;replace q118:=eq_true q118;have HX128:=Aside0.mk (show Kd.Q k52 52 w126 w.heap.size (fun k_ => k_ ≠ gb185) (.slice (some ⟨go118,oo118,none⟩) x3_1.length co119) x3_1 from (by exact HO_3.out));obtain ⟨ce128,hcl128,hM128,hcc128,hfr128⟩ := Kd.Q_elem HX128.out z52 (t181 : Int) (of_decide_eq_true (by (with_reducible assumption))) (by have h_ : (t181 : Int) < ((x3_1.length : Int) : Int):=of_decide_eq_true (by (with_reducible assumption));exact h_);obtain rfl:=k52_openM hM128;have HP128:=Kd.Q_seg HX128.out (t181 : Int) (of_decide_eq_true (by (with_reducible assumption))) (by have h_ : (t181 : Int) < ((x3_1.length : Int) : Int):=of_decide_eq_true (by (with_reducible assumption));exact h_) (seg := [.int .i64 ((rd_T52 x3_1 t181).f0), .string ((rd_T52 x3_1 t181).f1), .bool (!((rd_T52 x3_1 t181).f2)), .int .i64 ((rd_T52 x3_1 t181).f3)]) (j:=0) hcl128 hcc128 (show 4 ≤ 4 from by decide) (x':=(⟨(rd_T52 x3_1 t181).f0,(rd_T52 x3_1 t181).f1,!((rd_T52 x3_1 t181).f2),(rd_T52 x3_1 t181).f3⟩ : S52)) (k52_mkM _ _ _ (⟨(rd_T52 x3_1 t181).f0,(rd_T52 x3_1 t181).f1,!((rd_T52 x3_1 t181).f2),(rd_T52 x3_1 t181).f3⟩ : S52) ) (fun _ hk => hk);have hx128_0:=hcc128 0 _ rfl;(try simp only [show (k52).sz = 4 from rfl,Nat.mul_one,Nat.add_zero] at hx128_0);have hf128_0:=hfr128 0;(try simp only [show (k52).sz = 4 from rfl,Nat.mul_one,Nat.add_zero] at hf128_0);have hx128_1:=hcc128 1 _ rfl;(try simp only [show (k52).sz = 4 from rfl,Nat.mul_one,Nat.add_zero] at hx128_1);have hf128_1:=hfr128 1;(try simp only [show (k52).sz = 4 from rfl,Nat.mul_one,Nat.add_zero] at hf128_1);have hx128_2:=hcc128 2 _ rfl;(try simp only [show (k52).sz = 4 from rfl,Nat.mul_one,Nat.add_zero] at hx128_2);have hf128_2:=hfr128 2;(try simp only [show (k52).sz = 4 from rfl,Nat.mul_one,Nat.add_zero] at hf128_2);have hx128_3:=hcc128 3 _ rfl;(try simp only [show (k52).sz = 4 from rfl,Nat.mul_one,Nat.add_zero] at hx128_3);have hf128_3:=hfr128 3;(try simp only [show (k52).sz = 4 from rfl,Nat.mul_one,Nat.add_zero] at hf128_3);clear hcl128 hcc128 hfr128;(try clear hM128)) | ((with_reducible refine gate_store (t:=52) (p:=140) rfl ?_);refine store_event (t:=52) (p:=140) (v:=?vo_w129) (w1:=((((w126.setCell ⟨go118,oo118 + (t181 : Int).toNat * 4,none⟩ (.int .i64 ((rd_T52 x3_1 t181).f0))).setCell ⟨go118,oo118 + (t181 : Int).toNat * 4 + 1,none⟩ (.string ((rd_T52 x3_1 t181).f1))).setCell ⟨go118,oo118 + (t181 : Int).toNat * 4 + 2,none⟩ (.bool (!((rd_T52 x3_1 t181).f2)))).setCell ⟨go118,oo118 + (t181 : Int).toNat * 4 + 3,none⟩ (.int .i64 ((rd_T52 x3_1 t181).f3)))) ?hg ?ho ?hn ?hr ?_;(case ho => rfl);(case hg => rfl);(case hn => rfl);(case hr => (go_simp;done));intro w129 hw;have hg : w126.grownBy w129 (some go118):=(by rw [hw];exact HP128.2);have hp_ : Kd.Q k52 52 w129 w.heap.size (fun k_ => k_ ≠ gb185) (.slice (some ⟨go118,oo118,none⟩) x3_1.length co119) y210:=(by rw [hw,Ny210.out];exact HP128.1);clear HP128;have n0_:=Aside0.mk (hp_);have n1_:=Aside0.mk (IsS61.grownX3 HI0.out (by exact HI0.out) hg (IsS61.own_neQ HI0.out HO_3.out (by decide)));have n2_:=Aside0.mk (blk_grown (g:=gb185) (o := .cells #[.int .i64 ((rd_T52 x3_1 t181).f0), .string ((rd_T52 x3_1 t181).f1), .bool (!((rd_T52 x3_1 t181).f2)), .int .i64 ((rd_T52 x3_1 t181).f3)] 52 (0,0)) (by exact BK185.out) hg (Kd.Q_away HO_3.out (fun _ hk => hk)));have n3_:=Aside0.mk ((by rw [hw];exact below_set (below_set (below_set (below_set (HB.out) (Nat.le_trans HL.out GB118.out)) (Nat.le_trans HL.out GB118.out)) (Nat.le_trans HL.out GB118.out)) (Nat.le_trans HL.out GB118.out) : Below w0.heap.size w0 w129));have n4_:=Aside0.mk (KeepBut.trans (by exact HK.out) (KeepBut.of_grown hg g) (Kd.Q_base2 HO_3.out));clear HO_3;clear HI0;clear BK185;clear HB;clear HK;have HO_3:=n0_;have HI0:=n1_;have BK185:=n2_;have HB:=n3_;have HK:=n4_;clear n0_ n1_ n2_ n3_ n4_;clear hg hw hp_))
           go_ret
           exact ⟨_,by rfl,by exact Kd.Q_mono HO_3.out (fun _ hk => trivial),by exact HI0.out,by exact HB.out,by exact HK.out⟩
          ·rw [if_neg c117] at H
           have c117b0 : (t186 == 3) = false:=beq_eq_false_iff_ne.mpr c117
           have c117b1 : (t186 != 3) = true:=bne_iff_ne.mpr c117
           by_cases c130 : t186 = 4
           ·rw [if_pos c130] at H
            have c130b0 : (t186 == 4) = true:=beq_iff_eq.mpr c130
            have c130b1 : (t186 != 4) = false:=bne_eq_false_iff_eq.mpr c130
            clear c130
            have HC131:=Aside0.mk H
            clear H
            obtain ⟨Ao132,co132,eo132,_⟩ := Kd.Q_slice HO_3.out
            subst eo132
            go_upto_if 106 with (first | ((with_reducible refine gate_callee (f:=45) rfl ?_);refine goesL_ (some 70) rfl rfl Try.func45 (by kernel_rfl) rfl #[.pointer (some ⟨g,0,none⟩), .int .i64 (x3_1.length : Int)] rfl (by (try simp only [List.map_toArray,List.map_cons,List.map_nil]);rfl) ?_;(with_reducible refine (spec_l1Cur_pick.calls g s0_0 x1001_1 x1002_1 (x3_1.length : Int) t181 t182 t183 w0 _ ?side1 ?side2 A59.out).mono ?_);(case side1 => exact HI0.out);(case side2 => exact HB.out);rintro e w133 ⟨rfl,hi,hb,hk⟩;refine ⟨_,rfl, ?_⟩;have n0_:=Aside0.mk (Kd.Q_mono (Kd.Q_keep (IsS61.apartQ (show IsS61 w0 _ g s0_0 x1001_1 x1002_1 from by exact HI0.out) (by exact HO_3.out) (by decide)) hk (fun _ h => h.2)) (fun _ h => h.1));have n1_:=Aside0.mk (KeepBut.trans (by exact HK.out) hk (.inl rfl));have n2_:=Aside0.mk (hb);have n3_:=Aside0.mk (hi);clear HO_3;clear HK;clear HB;clear HI0;have HO_3:=n0_;have HK:=n1_;have HB:=n2_;have HI0:=n3_;clear n0_ n1_ n2_ n3_;(try clear hb);(try clear hk);(try clear hi);have p184 : 0 ≤ (t181 : Int):=of_decide_eq_true (by (with_reducible assumption));have q184 : t181 < (x3_1.length : Int):=of_decide_eq_true (by (with_reducible assumption));obtain ⟨ad184,e184,hx184_0,hx184_1,hx184_2,hx184_3⟩ := at_T52 (Kd.Q_reads' HO_3.out).2.2 t181 p184 q184;cases e184;replace p184:=eq_true p184;replace q184:=eq_true q184) | ((with_reducible refine gate_dst (N:=9) rfl ?_);refine box_event ?hg (N:=9) ?hd (cs:=#[.int .i64 0, .string (⟨#[]⟩ : ByteArray), .bool false, .int .i64 0]) (t:=52) ?hr ?_;(case hd => rfl);(case hg => rfl);(case hr => (go_simp;done));intro gb185 hg w134 hbox hb;have n0_:=Aside0.mk (Kd.Q_below (Kd.Q_elderB (by exact HO_3.out) gb185 (Nat.le_of_eq hg.symm)) hb);have n1_:=Aside0.mk (IsS61.below (by exact HI0.out) hb);have n2_:=Aside0.mk (KeepBut.trans (by exact HK.out) (KeepBut.of_below hb g none) (.inl rfl));have n3_:=Aside0.mk (below_step (by exact HB.out) hb);have n4_:=Aside0.mk (hbox);have n5_:=Aside0.mk ((by rw [hg];exact (keep_size (w:=w) (g:=g) (row:=none) (by exact HK.out)) : w.heap.size ≤ gb185));have n6_:=Aside0.mk ((Nat.le_trans HW0.out (by rw [hg];exact (keep_size (w:=w) (g:=g) (row:=none) (by exact HK.out)) : w.heap.size ≤ gb185) : w0.heap.size ≤ gb185));have n7_:=Aside0.mk ((by rw [hg];exact Nat.ne_of_lt (IsS61.lt (show IsS61 w0 _ g s0_0 t182 t183 from by exact HI0.out)) : g ≠ gb185));have n8_:=Aside0.mk ((by rw [hg];exact Nat.ne_of_gt (IsS61.lt (show IsS61 w0 _ g s0_0 t182 t183 from by exact HI0.out)) : gb185 ≠ g));clear HO_3;clear HI0;clear HK;clear HB;have HO_3:=n0_;have HI0:=n1_;have HK:=n2_;have HB:=n3_;have BK185:=n4_;have GW185:=n5_;have GE185:=n6_;have NB0_185:=n7_;have NB185_0:=n8_;clear n0_ n1_ n2_ n3_ n4_ n5_ n6_ n7_ n8_;clear hb hbox hg;have hnb135:=NB185_0.out;have hnc135:=NB0_185.out;have hcz136_0 : w134.cell? ⟨gb185,0,none⟩ = some (.int .i64 0):=(blk_cell BK185.out 0).trans rfl;have hcz136_1 : w134.cell? ⟨gb185,1,none⟩ = some (.string (⟨#[]⟩ : ByteArray)):=(blk_cell BK185.out 1).trans rfl;have hcz136_2 : w134.cell? ⟨gb185,2,none⟩ = some (.bool false):=(blk_cell BK185.out 2).trans rfl;have hcz136_3 : w134.cell? ⟨gb185,3,none⟩ = some (.int .i64 0):=(blk_cell BK185.out 3).trans rfl;have hfz136_0:=blk_frozen BK185.out 0;have hfz136_1:=blk_frozen BK185.out 1;have hfz136_2:=blk_frozen BK185.out 2;have hfz136_3:=blk_frozen BK185.out 3) | ((with_reducible refine gate_callee (f:=45) rfl ?_);refine goesL_ (some 76) rfl rfl Try.func45 (by kernel_rfl) rfl #[.pointer (some ⟨g,0,none⟩), .int .i64 40] rfl (by (try simp only [List.map_toArray,List.map_cons,List.map_nil]);rfl) ?_;(with_reducible refine (spec_l1Cur_pick.calls g s0_0 t182 t183 40 t186 t187 t188 w0 _ ?side1 ?side2 A62.out).mono ?_);(case side1 => repeat ((with_reducible first | exact HI0.out | refine IsS61.far ?_ NB0_185.out _)));(case side2 => repeat ((with_reducible first | exact HB.out | refine below_set ?_ GE185.out)));rintro e w137 ⟨rfl,hi,hb,hk⟩;refine ⟨_,rfl, ?_⟩;have n0_:=Aside0.mk (Kd.Q_mono (Kd.Q_keep (IsS61.apartQ (show IsS61 w0 _ g s0_0 t182 t183 from by repeat ((with_reducible first | exact HI0.out | refine IsS61.far ?_ NB0_185.out _))) (by exact (Kd.Q_mono (Kd.Q_far (p:=⟨gb185,3,none⟩) (Kd.Q_far (p:=⟨gb185,2,none⟩) (Kd.Q_far (p:=⟨gb185,1,none⟩) (Kd.Q_far (p:=⟨gb185,0,none⟩) (Kd.Q_mono HO_3.out (fun k_ hk => (⟨hk,hk.2⟩ : _ ∧ k_ ≠ gb185))) (fun _ hk => hk.2) (.int .i64 ((rd_T52 x3_1 t181).f0))) (fun _ hk => hk.2) (.string ((rd_T52 x3_1 t181).f1))) (fun _ hk => hk.2) (.bool ((rd_T52 x3_1 t181).f2))) (fun _ hk => hk.2) (.int .i64 ((rd_T52 x3_1 t181).f3))) (fun _ h_ => h_.1))) (by decide)) hk (fun _ h => h.2)) (fun _ h => h.1));have n1_:=Aside0.mk (KeepBut.blk hk (g':=gb185) (o := .cells #[.int .i64 ((rd_T52 x3_1 t181).f0), .string ((rd_T52 x3_1 t181).f1), .bool ((rd_T52 x3_1 t181).f2), .int .i64 ((rd_T52 x3_1 t181).f3)] 52 (0,0)) (by refine blk_put (cs:=#[.int .i64 ((rd_T52 x3_1 t181).f0), .string ((rd_T52 x3_1 t181).f1), .bool ((rd_T52 x3_1 t181).f2), .int .i64 0]) ?_ 3 _ rfl;refine blk_put (cs:=#[.int .i64 ((rd_T52 x3_1 t181).f0), .string ((rd_T52 x3_1 t181).f1), .bool false, .int .i64 0]) ?_ 2 _ rfl;refine blk_put (cs:=#[.int .i64 ((rd_T52 x3_1 t181).f0), .string (⟨#[]⟩ : ByteArray), .bool false, .int .i64 0]) ?_ 1 _ rfl;refine blk_put (cs:=#[.int .i64 0, .string (⟨#[]⟩ : ByteArray), .bool false, .int .i64 0]) ?_ 0 _ rfl;exact BK185.out) NB185_0.out (by simp));have n2_:=Aside0.mk (KeepBut.trans (by repeat ((with_reducible first | exact HK.out | refine keep_far ?_ GW185.out _))) hk (.inl rfl));have n3_:=Aside0.mk (hb);have n4_:=Aside0.mk (hi);clear HO_3;clear BK185;clear HK;clear HB;clear HI0;have HO_3:=n0_;have BK185:=n1_;have HK:=n2_;have HB:=n3_;have HI0:=n4_;clear n0_ n1_ n2_ n3_ n4_;(try clear hb);(try clear hk);(try clear hi)))
            (skip)
            go_cut [3,8] (fun v3 v8 wc => ∃ (kq : Nat) (x3_130 : List (S52)) (x8_130 : Int) (x1001_130 : Int) (x1002_130 : Int) (x186000_130 : Int) (x186001_130 : ByteArray) (x186002_130 : Bool) (x186003_130 : Int),v8 = .int .i64 x8_130 ∧ Aside0 (spec_l1Cur_file.j2 kq x3_130 x8_130 s0_0 x1001_130 x1002_130 x186000_130 x186001_130 x186002_130 x186003_130 = some (r1,r2,r3)) ∧ Aside0 (kq ≤ k1) ∧ Aside0 (Kd.Q k52 52 wc w.heap.size (fun k_ => k_ ≠ gb185) v3 x3_130) ∧ Aside0 (wc.heap[gb185]? = some (.cells #[.int .i64 x186000_130, .string x186001_130, .bool x186002_130, .int .i64 x186003_130] 52 (0,0))) ∧ Aside0 (IsS61 w0 wc g s0_0 x1001_130 x1002_130) ∧ Aside0 (KeepBut w wc g none) ∧ Aside0 (Below w0.heap.size w0 wc))
            case first =>
             have H:=HC131.out
             clear HC131
             by_cases c138 : ((x3_1.length : Int) % 2) = 1
             ·rw [if_pos c138] at H
              have c138b0 : (((x3_1.length : Int) % 2) == 1) = true:=beq_iff_eq.mpr c138
              have c138b1 : (((x3_1.length : Int) % 2) != 1) = false:=bne_eq_false_iff_eq.mpr c138
              clear c138
              (rw [c138b0])
              by_cases c139 : 1 ≤ (x3_1.length : Int)
              ·rw [if_pos c139] at H
               have c139b0:=eq_true c139
               have c139b1 : decide (1 ≤ (x3_1.length : Int)) = true:=decide_eq_true c139
               clear c139
               obtain ⟨y211,hy211⟩ : ∃ y_ : List (S52),y_ = (x3_1.drop (1 : Int).toNat):=⟨_,rfl⟩
               replace H : ((spec_l1Cur_id20.f k1 s0_0 t187 t188).bind fun bt214 => (spec_l1Cur_file.j2 k1 (([(⟨0,bt214.1,true,1⟩ : S52),(⟨0,bt214.1,false,1⟩ : S52)] : List (S52))) 0 s0_0 bt214.2.1 bt214.2.2 0 bt214.1 true 1)) = some (r1,r2,r3):=by with_reducible exact H
               have Ny211:=Aside0.mk hy211
               clear hy211
               replace H:=Option.bind_eq_some_iff.mp H
               obtain ⟨⟨t214,t215,t216⟩,A1400,H⟩ := H
               replace H : (spec_l1Cur_file.j2 k1 (([(⟨0,t214,true,1⟩ : S52),(⟨0,t214,false,1⟩ : S52)] : List (S52))) 0 s0_0 t215 t216 0 t214 true 1) = some (r1,r2,r3):=H
               have A140:=Aside0.mk A1400
               clear A1400
               obtain ⟨y217,hy217⟩ : ∃ y_ : List (S52),y_ = (([(⟨0,t214,true,1⟩ : S52),(⟨0,t214,false,1⟩ : S52)] : List (S52))):=⟨_,rfl⟩
               replace H : (spec_l1Cur_file.j2 k1 y217 0 s0_0 t215 t216 0 t214 true 1) = some (r1,r2,r3):=by (rw [hy217];with_reducible exact H)
               have Ny217:=Aside0.mk hy217
               clear hy217
               have H':=Aside0.mk H
               clear H
               have n_:=Aside0.mk (Kd.Q_mono (ok':=(fun k_ => k_ ≠ gb185)) HO_3.out (fun k_ hk => hk.2))
               clear HO_3
               have HO_3:=n_
               clear n_
               have q141 : (1 : Int) ≤ ((x3_1.length : Int) : Int):=of_decide_eq_true (by (with_reducible assumption))
               obtain ⟨i0141,hi0141,_,hsz141,_⟩ := info_parts info52
               have hcut141:=cut_from (P:=Try.prog) 24 52 .i64 Try.underlying24 hi0141 4 hsz141 (some ad184) x3_1.length co132 1 (by omega) q141
               have hr141:=Kd.Q_drop (k:=(1 : Int).toNat) HO_3.out (by omega)
               obtain ⟨A141,hA141⟩ : ∃ A1,A1 = (if co132 = (1 : Int).toNat then (some ad184) else ((some ad184) : Option Addr).map (·.add ((1 : Int).toNat * 4))):=⟨_,rfl⟩
               obtain ⟨c141,hc141⟩ : ∃ c1,c1 = co132 - (1 : Int).toNat:=⟨_,rfl⟩
               have hy141 : y211.length = x3_1.length - (1 : Int).toNat:=(by rw [Ny211.out,List.length_drop])
               rw [← Ny211.out] at hr141
               rw [← hy141,← hA141,← hc141] at hcut141
               replace hr141 : Kd.Q k52 52 w137 w.heap.size (fun k_ => k_ ≠ gb185) (.slice A141 y211.length c141) y211:=(by rw [hA141,hc141,hy141];exact hr141)
               have HE141 : Aside0 ((Value.slice A141 y211.length c141).ownBlock = (.slice (some ad184) x3_1.length co132 : Value).ownBlock):=⟨by rw [hA141];split <;> (cases ((some ad184) : Option Addr) <;> rfl)⟩
               clear hy141 hi0141 hsz141 HO_3 hA141 hc141
               have HO213:=Aside0.mk hr141
               clear hr141
               replace q141:=eq_true q141
               go_wp2_with (first | ((with_reducible refine gate_callee (f:=54) rfl ?_);refine goesL_ (some 110) rfl rfl Try.func54 (by kernel_rfl) rfl #[.pointer (some ⟨g,0,none⟩)] rfl (by (try simp only [List.map_toArray,List.map_cons,List.map_nil]);rfl) ?_;(with_reducible refine (spec_l1Cur_id20.calls k1 g s0_0 t187 t188 t214 t215 t216 w0 _ ?side1 ?side2 A140.out).mono ?_);(case side1 => exact HI0.out);(case side2 => exact HB.out);rintro e w142 ⟨rfl,hi,hb,hk⟩;refine ⟨_,rfl, ?_⟩;have n0_:=Aside0.mk (Kd.Q_mono (Kd.Q_keep (IsS61.apartQ (show IsS61 w0 _ g s0_0 t187 t188 from by exact HI0.out) (by exact HO213.out) (by decide)) hk (fun _ h => h.2)) (fun _ h => h.1));have n1_:=Aside0.mk (KeepBut.blk hk (g':=gb185) (o := .cells #[.int .i64 ((rd_T52 x3_1 t181).f0), .string ((rd_T52 x3_1 t181).f1), .bool ((rd_T52 x3_1 t181).f2), .int .i64 ((rd_T52 x3_1 t181).f3)] 52 (0,0)) (by exact BK185.out) NB185_0.out (by simp));have n2_:=Aside0.mk (KeepBut.trans (by exact HK.out) hk (.inl rfl));have n3_:=Aside0.mk (hb);have n4_:=Aside0.mk (hi);clear HO213;clear BK185;clear HK;clear HB;clear HI0;have HO213:=n0_;have BK185:=n1_;have HK:=n2_;have HB:=n3_;have HI0:=n4_;clear n0_ n1_ n2_ n3_ n4_;(try clear hb);(try clear hk);(try clear hi);have hnb143:=NB185_0.out;have hnc143:=NB0_185.out;have hcz144_0 : w142.cell? ⟨gb185,0,none⟩ = some (.int .i64 ((rd_T52 x3_1 t181).f0)):=(blk_cell BK185.out 0).trans rfl;have hcz144_1 : w142.cell? ⟨gb185,1,none⟩ = some (.string ((rd_T52 x3_1 t181).f1)):=(blk_cell BK185.out 1).trans rfl;have hcz144_2 : w142.cell? ⟨gb185,2,none⟩ = some (.bool ((rd_T52 x3_1 t181).f2)):=(blk_cell BK185.out 2).trans rfl;have hcz144_3 : w142.cell? ⟨gb185,3,none⟩ = some (.int .i64 ((rd_T52 x3_1 t181).f3)):=(blk_cell BK185.out 3).trans rfl;have hfz144_0:=blk_frozen BK185.out 0;have hfz144_1:=blk_frozen BK185.out 1;have hfz144_2:=blk_frozen BK185.out 2;have hfz144_3:=blk_frozen BK185.out 3) | ((with_reducible refine gate_dst (N:=116) rfl ?_);refine Kd.R_lit k52 _ 52 ?hg (N:=116) ?hd (xs:=([(⟨0,t214,true,1⟩ : S52),(⟨0,t214,false,1⟩ : S52)] : List (S52))) (inner := [.int .i64 0, .string t214, .bool true, .int .i64 1, .int .i64 0, .string t214, .bool false, .int .i64 1]) (ok:=fun _ => True) (okp:=fun _ => True) ?hr ?hp (fun _ hk => hk) trivial (Below.refl _ _) (Nat.le_refl _) (by simp) ?_;(case hd => rfl);(case hg => rfl);(case hr => (go_simp;done));(case hp => exact (Reps.c4 (show Kd.M k52 _ _ _ (⟨0,t214,true,1⟩ : S52) [.int .i64 0, .string t214, .bool true, .int .i64 1] from (k52_mkM _ _ _ (⟨0,t214,true,1⟩ : S52) )) (Reps.c4 (show Kd.M k52 _ _ _ (⟨0,t214,false,1⟩ : S52) [.int .i64 0, .string t214, .bool false, .int .i64 1] from (k52_mkM _ _ _ (⟨0,t214,false,1⟩ : S52) )) (Reps.none _ _))));intro v218 w145 ho146 hb hg_ hnew_;clear hg_ hnew_;(rw [← Ny217.out] at ho146);have n0_:=Aside0.mk (Kd.Q_elder' (by exact (Kd.Q_mono (Kd.Q_far (p:=⟨gb185,3,none⟩) (Kd.Q_far (p:=⟨gb185,2,none⟩) (Kd.Q_far (p:=⟨gb185,1,none⟩) (Kd.Q_far (p:=⟨gb185,0,none⟩) (Kd.Q_mono HO213.out (fun k_ hk => (⟨hk,hk⟩ : _ ∧ k_ ≠ gb185))) (fun _ hk => hk.2) (.int .i64 0)) (fun _ hk => hk.2) (.string t214)) (fun _ hk => hk.2) (.bool true)) (fun _ hk => hk.2) (.int .i64 1)) (fun _ h_ => h_.1))) (Kd.R_base ho146) hb);have n1_:=Aside0.mk (Kd.R_lower (Kd.R_newB (Kd.R_new' ho146 (Kd.Q_lt (by exact (Kd.Q_mono (Kd.Q_far (p:=⟨gb185,3,none⟩) (Kd.Q_far (p:=⟨gb185,2,none⟩) (Kd.Q_far (p:=⟨gb185,1,none⟩) (Kd.Q_far (p:=⟨gb185,0,none⟩) (Kd.Q_mono HO213.out (fun k_ hk => (⟨hk,hk⟩ : _ ∧ k_ ≠ gb185))) (fun _ hk => hk.2) (.int .i64 0)) (fun _ hk => hk.2) (.string t214)) (fun _ hk => hk.2) (.bool true)) (fun _ hk => hk.2) (.int .i64 1)) (fun _ h_ => h_.1))))) (g:=gb185) (o := .cells #[.int .i64 0, .string t214, .bool true, .int .i64 1] 52 (0,0)) (by refine blk_put (cs:=#[.int .i64 0, .string t214, .bool true, .int .i64 ((rd_T52 x3_1 t181).f3)]) ?_ 3 _ rfl;refine blk_put (cs:=#[.int .i64 0, .string t214, .bool ((rd_T52 x3_1 t181).f2), .int .i64 ((rd_T52 x3_1 t181).f3)]) ?_ 2 _ rfl;refine blk_put (cs:=#[.int .i64 0, .string ((rd_T52 x3_1 t181).f1), .bool ((rd_T52 x3_1 t181).f2), .int .i64 ((rd_T52 x3_1 t181).f3)]) ?_ 1 _ rfl;refine blk_put (cs:=#[.int .i64 ((rd_T52 x3_1 t181).f0), .string ((rd_T52 x3_1 t181).f1), .bool ((rd_T52 x3_1 t181).f2), .int .i64 ((rd_T52 x3_1 t181).f3)]) ?_ 0 _ rfl;exact BK185.out)) (keep_size (w:=w) (g:=g) (row:=none) (by repeat ((with_reducible first | exact HK.out | refine keep_far ?_ GW185.out _)))));have n2_:=Aside0.mk (IsS61.below (show IsS61 w0 ((((w142.setCell ⟨gb185,0,none⟩ (.int .i64 0)).setCell ⟨gb185,1,none⟩ (.string t214)).setCell ⟨gb185,2,none⟩ (.bool true)).setCell ⟨gb185,3,none⟩ (.int .i64 1)) g s0_0 t215 t216 from by repeat ((with_reducible first | exact HI0.out | refine IsS61.far ?_ NB0_185.out _))) hb);have n3_:=Aside0.mk (blk_below (g:=gb185) (o := .cells #[.int .i64 0, .string t214, .bool true, .int .i64 1] 52 (0,0)) (by refine blk_put (cs:=#[.int .i64 0, .string t214, .bool true, .int .i64 ((rd_T52 x3_1 t181).f3)]) ?_ 3 _ rfl;refine blk_put (cs:=#[.int .i64 0, .string t214, .bool ((rd_T52 x3_1 t181).f2), .int .i64 ((rd_T52 x3_1 t181).f3)]) ?_ 2 _ rfl;refine blk_put (cs:=#[.int .i64 0, .string ((rd_T52 x3_1 t181).f1), .bool ((rd_T52 x3_1 t181).f2), .int .i64 ((rd_T52 x3_1 t181).f3)]) ?_ 1 _ rfl;refine blk_put (cs:=#[.int .i64 ((rd_T52 x3_1 t181).f0), .string ((rd_T52 x3_1 t181).f1), .bool ((rd_T52 x3_1 t181).f2), .int .i64 ((rd_T52 x3_1 t181).f3)]) ?_ 0 _ rfl;exact BK185.out) hb);have n4_:=Aside0.mk (KeepBut.trans (by repeat ((with_reducible first | exact HK.out | refine keep_far ?_ GW185.out _))) (KeepBut.of_below hb g none) (.inl rfl));have n5_:=Aside0.mk (below_step (by repeat ((with_reducible first | exact HB.out | refine below_set ?_ GE185.out))) hb);clear HO213;clear HI0;clear BK185;clear HK;clear HB;have HO213:=n0_;have HO219:=n1_;have HI0:=n2_;have BK185:=n3_;have HK:=n4_;have HB:=n5_;clear n0_ n1_ n2_ n3_ n4_ n5_;clear hb ho146))
               go_meet
               case rel => exact ⟨_,(y217),(0),(t215),(t216),(0),(t214),(true),(1),(by rfl),H',⟨by have:=HK1.out;omega⟩,⟨Kd.Q_of_R (by exact Kd.R_mono HO219.out (fun _ hk => hk.2))⟩,⟨by exact BK185.out⟩,⟨by exact HI0.out⟩,⟨by exact HK.out⟩,⟨by exact HB.out⟩⟩
              ·rw [if_neg c139] at H
               exact absurd H (by simp)
             ·rw [if_neg c138] at H
              have c138b0 : (((x3_1.length : Int) % 2) == 1) = false:=beq_eq_false_iff_ne.mpr c138
              have c138b1 : (((x3_1.length : Int) % 2) != 1) = true:=bne_iff_ne.mpr c138
              (rw [c138b0])
              have H':=Aside0.mk H
              clear H
              go_wp2
              go_meet
              case rel => exact ⟨_,(x3_1),(t181),(t187),(t188),((rd_T52 x3_1 t181).f0),((rd_T52 x3_1 t181).f1),((rd_T52 x3_1 t181).f2),((rd_T52 x3_1 t181).f3),(by rfl),H',⟨by have:=HK1.out;omega⟩,⟨by exact Kd.Q_mono HO_3.out (fun _ hk => hk.2)⟩,⟨by exact BK185.out⟩,⟨by exact HI0.out⟩,⟨by exact HK.out⟩,⟨by exact HB.out⟩⟩
            case rest =>
             clear HC131
             try clear c1
             try clear p1
             try clear q1
             try clear hx1
             try clear hf1
             try clear c2
             try clear p2
             try clear c3
             try clear c4
             try clear c5
             try clear c6
             try clear p6
             try clear q6
             try clear hx6
             try clear hf6
             try clear c7
             try clear hx7
             try clear hf7
             try clear c8
             try clear c8b0
             try clear p8
             try clear q8
             try clear hx8
             try clear hf8
             try clear c9
             try clear hx9
             try clear hf9
             try clear c10
             try clear p10
             try clear q10
             try clear hx10
             try clear hf10
             try clear c11
             try clear p11
             try clear q11
             try clear hx11
             try clear hf11
             try clear c12
             try clear hx12
             try clear hf12
             try clear c13
             try clear c14
             try clear q14
             try clear c16
             try clear p18
             try clear q18
             try clear hx18
             try clear c19
             try clear c19b0
             try clear c19b1
             try clear c22
             try clear c23
             try clear c23b0
             try clear c24
             try clear c26
             try clear c34
             try clear c35
             try clear c37
             try clear c40
             try clear c40b0
             try clear c41
             try clear c43
             try clear c45
             try clear c51
             try clear c54
             try clear c56
             try clear c57
             try clear c57b0
             try clear c57b1
             try clear c57b2
             try clear c60
             try clear c60b0
             try clear c61
             try clear c61b0
             try clear c63
             try clear c63b0
             try clear c63b1
             try clear p64
             try clear c65
             try clear p65
             try clear q65
             try clear hx65
             try clear hf65
             try clear c69
             try clear c79
             try clear hx79
             try clear hf79
             try clear c81
             try clear c81b0
             try clear c81b1
             try clear c83
             try clear p83
             try clear q83
             try clear hx83
             try clear hf83
             try clear c87
             try clear c97
             try clear hx97
             try clear hf97
             try clear c99
             try clear c99b0
             try clear c99b1
             try clear c101
             try clear p101
             try clear q101
             try clear hx101
             try clear hf101
             try clear c105
             try clear c115
             try clear hx115
             try clear hf115
             try clear c117
             try clear c117b0
             try clear c117b1
             try clear c118
             try clear p118
             try clear q118
             try clear hx118
             try clear hf118
             try clear c122
             try clear c128
             try clear hx128
             try clear hf128
             try clear c130
             try clear c130b0
             try clear c130b1
             try clear c135
             try clear c138
             try clear c138b0
             try clear c138b1
             try clear c139
             try clear c139b0
             try clear c139b1
             try clear c141
             try clear q141
             try clear c143
             try clear hcz106_0
             try clear hcz106_1
             try clear hcz106_2
             try clear hcz106_3
             try clear hcz112_0
             try clear hcz112_1
             try clear hcz112_2
             try clear hcz112_3
             try clear hcz114_0
             try clear hcz114_1
             try clear hcz114_2
             try clear hcz114_3
             try clear hcz123_0
             try clear hcz123_1
             try clear hcz123_2
             try clear hcz123_3
             try clear hcz125_0
             try clear hcz125_1
             try clear hcz125_2
             try clear hcz125_3
             try clear hcz127_0
             try clear hcz127_1
             try clear hcz127_2
             try clear hcz127_3
             try clear hcz136_0
             try clear hcz136_1
             try clear hcz136_2
             try clear hcz136_3
             try clear hcz144_0
             try clear hcz144_1
             try clear hcz144_2
             try clear hcz144_3
             try clear hcz17_0
             try clear hcz17_1
             try clear hcz17_2
             try clear hcz17_3
             try clear hcz27_0
             try clear hcz27_1
             try clear hcz27_2
             try clear hcz27_3
             try clear hcz35_0
             try clear hcz35_1
             try clear hcz35_2
             try clear hcz35_3
             try clear hcz44_0
             try clear hcz44_1
             try clear hcz44_2
             try clear hcz44_3
             try clear hcz52_0
             try clear hcz52_1
             try clear hcz52_2
             try clear hcz52_3
             try clear hcz70_0
             try clear hcz70_1
             try clear hcz70_2
             try clear hcz70_3
             try clear hcz76_0
             try clear hcz76_1
             try clear hcz76_2
             try clear hcz76_3
             try clear hcz78_0
             try clear hcz78_1
             try clear hcz78_2
             try clear hcz78_3
             try clear hcz88_0
             try clear hcz88_1
             try clear hcz88_2
             try clear hcz88_3
             try clear hcz94_0
             try clear hcz94_1
             try clear hcz94_2
             try clear hcz94_3
             try clear hcz96_0
             try clear hcz96_1
             try clear hcz96_2
             try clear hcz96_3
             try clear hfz106_0
             try clear hfz106_1
             try clear hfz106_2
             try clear hfz106_3
             try clear hfz112_0
             try clear hfz112_1
             try clear hfz112_2
             try clear hfz112_3
             try clear hfz114_0
             try clear hfz114_1
             try clear hfz114_2
             try clear hfz114_3
             try clear hfz123_0
             try clear hfz123_1
             try clear hfz123_2
             try clear hfz123_3
             try clear hfz125_0
             try clear hfz125_1
             try clear hfz125_2
             try clear hfz125_3
             try clear hfz127_0
             try clear hfz127_1
             try clear hfz127_2
             try clear hfz127_3
             try clear hfz136_0
             try clear hfz136_1
             try clear hfz136_2
             try clear hfz136_3
             try clear hfz144_0
             try clear hfz144_1
             try clear hfz144_2
             try clear hfz144_3
             try clear hfz17_0
             try clear hfz17_1
             try clear hfz17_2
             try clear hfz17_3
             try clear hfz27_0
             try clear hfz27_1
             try clear hfz27_2
             try clear hfz27_3
             try clear hfz35_0
             try clear hfz35_1
             try clear hfz35_2
             try clear hfz35_3
             try clear hfz44_0
             try clear hfz44_1
             try clear hfz44_2
             try clear hfz44_3
             try clear hfz52_0
             try clear hfz52_1
             try clear hfz52_2
             try clear hfz52_3
             try clear hfz70_0
             try clear hfz70_1
             try clear hfz70_2
             try clear hfz70_3
             try clear hfz76_0
             try clear hfz76_1
             try clear hfz76_2
             try clear hfz76_3
             try clear hfz78_0
             try clear hfz78_1
             try clear hfz78_2
             try clear hfz78_3
             try clear hfz88_0
             try clear hfz88_1
             try clear hfz88_2
             try clear hfz88_3
             try clear hfz94_0
             try clear hfz94_1
             try clear hfz94_2
             try clear hfz94_3
             try clear hfz96_0
             try clear hfz96_1
             try clear hfz96_2
             try clear hfz96_3
             try clear hx101_0
             try clear hx101_1
             try clear hx101_2
             try clear hx101_3
             try clear hx115_0
             try clear hx115_1
             try clear hx115_2
             try clear hx115_3
             try clear hx118_0
             try clear hx118_1
             try clear hx118_2
             try clear hx118_3
             try clear hx128_0
             try clear hx128_1
             try clear hx128_2
             try clear hx128_3
             try clear hx184_0
             try clear hx184_1
             try clear hx184_2
             try clear hx184_3
             try clear hx65_0
             try clear hx65_1
             try clear hx65_2
             try clear hx65_3
             try clear hx79_0
             try clear hx79_1
             try clear hx79_2
             try clear hx79_3
             try clear hx83_0
             try clear hx83_1
             try clear hx83_2
             try clear hx83_3
             try clear hx97_0
             try clear hx97_1
             try clear hx97_2
             try clear hx97_3
             try clear p101
             try clear p118
             try clear p184
             try clear p2
             try clear p6
             try clear p65
             try clear p83
             try clear q101
             try clear q118
             try clear q141
             try clear q184
             try clear q65
             try clear q83
             obtain ⟨kq,x3_130,x8_130,x1001_130,x1002_130,x186000_130,x186001_130,x186002_130,x186003_130,rfl,HA,HJ130,HO_3,BK185,HI0,HK,HB⟩ := hcut
             cases kq with
             | zero => exact absurd HA.out (by simp [spec_l1Cur_file.j2])
             | succ kj130 =>
              have H:=HA.out
              clear HA
              simp only [spec_l1Cur_file.j2] at H
              replace H:=Option.bind_eq_some_iff.mp H
              obtain ⟨⟨t220,t221,t222⟩,A1470,H⟩ := H
              replace H : (spec_l1Cur_file.l1 kj130 x3_130 x8_130 (wrap64 (20 + t220)) s0_0 t221 t222 x186000_130 x186001_130 x186002_130 x186003_130) = some (r1,r2,r3):=H
              have A147:=Aside0.mk A1470
              clear A1470
              have H':=Aside0.mk H
              clear H
              go_wp2_with (((with_reducible refine gate_callee (f:=45) rfl ?_);refine goesL_ (some 118) rfl rfl Try.func45 (by kernel_rfl) rfl #[.pointer (some ⟨g,0,none⟩), .int .i64 2] rfl (by (try simp only [List.map_toArray,List.map_cons,List.map_nil]);rfl) ?_;(with_reducible refine (spec_l1Cur_pick.calls g s0_0 x1001_130 x1002_130 2 t220 t221 t222 w0 _ ?side1 ?side2 A147.out).mono ?_);(case side1 => exact HI0.out);(case side2 => exact HB.out);rintro e w148 ⟨rfl,hi,hb,hk⟩;refine ⟨_,rfl, ?_⟩;have n0_:=Aside0.mk (Kd.Q_mono (Kd.Q_keep (IsS61.apartQ (show IsS61 w0 _ g s0_0 x1001_130 x1002_130 from by exact HI0.out) (by exact HO_3.out) (by decide)) hk (fun _ h => h.2)) (fun _ h => h.1));have n1_:=Aside0.mk (KeepBut.blk hk (g':=gb185) (o := .cells #[.int .i64 x186000_130, .string x186001_130, .bool x186002_130, .int .i64 x186003_130] 52 (0,0)) (by exact BK185.out) NB185_0.out (by simp));have n2_:=Aside0.mk (KeepBut.trans (by exact HK.out) hk (.inl rfl));have n3_:=Aside0.mk (hb);have n4_:=Aside0.mk (hi);clear HO_3;clear BK185;clear HK;clear HB;clear HI0;have HO_3:=n0_;have BK185:=n1_;have HK:=n2_;have HB:=n3_;have HI0:=n4_;clear n0_ n1_ n2_ n3_ n4_;(try clear hb);(try clear hk);(try clear hi)))
              (skip)
              go_loopg [3] kj130 (fun kq v3 w' => ∃ (x3_3 : List (S52)),Aside0 (spec_l1Cur_file.l1 kq x3_3 x8_130 (wrap64 (20 + t220)) s0_0 t221 t222 x186000_130 x186001_130 x186002_130 x186003_130 = some (r1,r2,r3)) ∧ Aside0 (kq ≤ kj130) ∧ Aside0 (Kd.Q k52 52 w' w.heap.size (fun k_ => k_ ≠ gb185) v3 x3_3) ∧ Aside0 (w'.heap[gb185]? = some (.cells #[.int .i64 x186000_130, .string x186001_130, .bool x186002_130, .int .i64 x186003_130] 52 (0,0))) ∧ Aside0 (IsS61 w0 w' g s0_0 t221 t222) ∧ Aside0 (KeepBut w w' g none) ∧ Aside0 (Below w0.heap.size w0 w'))
              case atStart => exact ⟨(x3_130),H',⟨Nat.le_refl _⟩,⟨by exact HO_3.out⟩,⟨by exact BK185.out⟩,⟨by exact HI0.out⟩,⟨by exact HK.out⟩,⟨by exact HB.out⟩⟩
              case round =>
               clear H'
               try clear c1
               try clear p1
               try clear q1
               try clear hx1
               try clear hf1
               try clear c2
               try clear p2
               try clear c3
               try clear c4
               try clear c5
               try clear c6
               try clear p6
               try clear q6
               try clear hx6
               try clear hf6
               try clear c7
               try clear hx7
               try clear hf7
               try clear c8
               try clear c8b0
               try clear p8
               try clear q8
               try clear hx8
               try clear hf8
               try clear c9
               try clear hx9
               try clear hf9
               try clear c10
               try clear p10
               try clear q10
               try clear hx10
               try clear hf10
               try clear c11
               try clear p11
               try clear q11
               try clear hx11
               try clear hf11
               try clear c12
               try clear hx12
               try clear hf12
               try clear c13
               try clear c14
               try clear q14
               try clear c16
               try clear p18
               try clear q18
               try clear hx18
               try clear c19
               try clear c19b0
               try clear c19b1
               try clear c22
               try clear c23
               try clear c23b0
               try clear c24
               try clear c26
               try clear c34
               try clear c35
               try clear c37
               try clear c40
               try clear c40b0
               try clear c41
               try clear c43
               try clear c45
               try clear c51
               try clear c54
               try clear c56
               try clear c57
               try clear c57b0
               try clear c57b1
               try clear c57b2
               try clear c60
               try clear c60b0
               try clear c61
               try clear c61b0
               try clear c63
               try clear c63b0
               try clear c63b1
               try clear p64
               try clear c65
               try clear p65
               try clear q65
               try clear hx65
               try clear hf65
               try clear c69
               try clear c79
               try clear hx79
               try clear hf79
               try clear c81
               try clear c81b0
               try clear c81b1
               try clear c83
               try clear p83
               try clear q83
               try clear hx83
               try clear hf83
               try clear c87
               try clear c97
               try clear hx97
               try clear hf97
               try clear c99
               try clear c99b0
               try clear c99b1
               try clear c101
               try clear p101
               try clear q101
               try clear hx101
               try clear hf101
               try clear c105
               try clear c115
               try clear hx115
               try clear hf115
               try clear c117
               try clear c117b0
               try clear c117b1
               try clear c118
               try clear p118
               try clear q118
               try clear hx118
               try clear hf118
               try clear c122
               try clear c128
               try clear hx128
               try clear hf128
               try clear c130
               try clear c130b0
               try clear c130b1
               try clear c135
               try clear c138
               try clear c138b0
               try clear c138b1
               try clear c139
               try clear c139b0
               try clear c139b1
               try clear c141
               try clear q141
               try clear c143
               try clear hcz106_0
               try clear hcz106_1
               try clear hcz106_2
               try clear hcz106_3
               try clear hcz112_0
               try clear hcz112_1
               try clear hcz112_2
               try clear hcz112_3
               try clear hcz114_0
               try clear hcz114_1
               try clear hcz114_2
               try clear hcz114_3
               try clear hcz123_0
               try clear hcz123_1
               try clear hcz123_2
               try clear hcz123_3
               try clear hcz125_0
               try clear hcz125_1
               try clear hcz125_2
               try clear hcz125_3
               try clear hcz127_0
               try clear hcz127_1
               try clear hcz127_2
               try clear hcz127_3
               try clear hcz136_0
               try clear hcz136_1
               try clear hcz136_2
               try clear hcz136_3
               try clear hcz144_0
               try clear hcz144_1
               try clear hcz144_2
               try clear hcz144_3
               try clear hcz17_0
               try clear hcz17_1
               try clear hcz17_2
               try clear hcz17_3
               try clear hcz27_0
               try clear hcz27_1
               try clear hcz27_2
               try clear hcz27_3
               try clear hcz35_0
               try clear hcz35_1
               try clear hcz35_2
               try clear hcz35_3
               try clear hcz44_0
               try clear hcz44_1
               try clear hcz44_2
               try clear hcz44_3
               try clear hcz52_0
               try clear hcz52_1
               try clear hcz52_2
               try clear hcz52_3
               try clear hcz70_0
               try clear hcz70_1
               try clear hcz70_2
               try clear hcz70_3
               try clear hcz76_0
               try clear hcz76_1
               try clear hcz76_2
               try clear hcz76_3
               try clear hcz78_0
               try clear hcz78_1
               try clear hcz78_2
               try clear hcz78_3
               try clear hcz88_0
               try clear hcz88_1
               try clear hcz88_2
               try clear hcz88_3
               try clear hcz94_0
               try clear hcz94_1
               try clear hcz94_2
               try clear hcz94_3
               try clear hcz96_0
               try clear hcz96_1
               try clear hcz96_2
               try clear hcz96_3
               try clear hfz106_0
               try clear hfz106_1
               try clear hfz106_2
               try clear hfz106_3
               try clear hfz112_0
               try clear hfz112_1
               try clear hfz112_2
               try clear hfz112_3
               try clear hfz114_0
               try clear hfz114_1
               try clear hfz114_2
               try clear hfz114_3
               try clear hfz123_0
               try clear hfz123_1
               try clear hfz123_2
               try clear hfz123_3
               try clear hfz125_0
               try clear hfz125_1
               try clear hfz125_2
               try clear hfz125_3
               try clear hfz127_0
               try clear hfz127_1
               try clear hfz127_2
               try clear hfz127_3
               try clear hfz136_0
               try clear hfz136_1
               try clear hfz136_2
               try clear hfz136_3
               try clear hfz144_0
               try clear hfz144_1
               try clear hfz144_2
               try clear hfz144_3
               try clear hfz17_0
               try clear hfz17_1
               try clear hfz17_2
               try clear hfz17_3
               try clear hfz27_0
               try clear hfz27_1
               try clear hfz27_2
               try clear hfz27_3
               try clear hfz35_0
               try clear hfz35_1
               try clear hfz35_2
               try clear hfz35_3
               try clear hfz44_0
               try clear hfz44_1
               try clear hfz44_2
               try clear hfz44_3
               try clear hfz52_0
               try clear hfz52_1
               try clear hfz52_2
               try clear hfz52_3
               try clear hfz70_0
               try clear hfz70_1
               try clear hfz70_2
               try clear hfz70_3
               try clear hfz76_0
               try clear hfz76_1
               try clear hfz76_2
               try clear hfz76_3
               try clear hfz78_0
               try clear hfz78_1
               try clear hfz78_2
               try clear hfz78_3
               try clear hfz88_0
               try clear hfz88_1
               try clear hfz88_2
               try clear hfz88_3
               try clear hfz94_0
               try clear hfz94_1
               try clear hfz94_2
               try clear hfz94_3
               try clear hfz96_0
               try clear hfz96_1
               try clear hfz96_2
               try clear hfz96_3
               try clear hx101_0
               try clear hx101_1
               try clear hx101_2
               try clear hx101_3
               try clear hx115_0
               try clear hx115_1
               try clear hx115_2
               try clear hx115_3
               try clear hx118_0
               try clear hx118_1
               try clear hx118_2
               try clear hx118_3
               try clear hx128_0
               try clear hx128_1
               try clear hx128_2
               try clear hx128_3
               try clear hx184_0
               try clear hx184_1
               try clear hx184_2
               try clear hx184_3
               try clear hx65_0
               try clear hx65_1
               try clear hx65_2
               try clear hx65_3
               try clear hx79_0
               try clear hx79_1
               try clear hx79_2
               try clear hx79_3
               try clear hx83_0
               try clear hx83_1
               try clear hx83_2
               try clear hx83_3
               try clear hx97_0
               try clear hx97_1
               try clear hx97_2
               try clear hx97_3
               try clear p1
               try clear p10
               try clear p101
               try clear p11
               try clear p118
               try clear p18
               try clear p184
               try clear p2
               try clear p6
               try clear p64
               try clear p65
               try clear p8
               try clear p83
               try clear q1
               try clear q10
               try clear q101
               try clear q11
               try clear q118
               try clear q14
               try clear q141
               try clear q18
               try clear q184
               try clear q6
               try clear q65
               try clear q8
               try clear q83
               obtain ⟨x3_3,HA,HK3,HO_3,BK185,HI0,HK,HB⟩ := hrel
               cases gk with
               | zero => exact absurd HA.out (by simp [spec_l1Cur_file.l1])
               | succ k3 =>
                have H:=HA.out
                clear HA
                simp only [spec_l1Cur_file.l1] at H
                by_cases c149 : (x3_3.length : Int) < (wrap64 (20 + t220))
                ·rw [if_pos c149] at H
                 have c149b0 : decide ((x3_3.length : Int) < (wrap64 (20 + t220))) = true:=decide_eq_true c149
                 clear c149
                 replace H:=Option.bind_eq_some_iff.mp H
                 obtain ⟨t223,A1500,H⟩ := H
                 replace H : ((some (([t223] : List Int) : List Int)).bind fun y224 => (if 7 + (strOfNums y224).size ≤ 9223372036854775807 then (if x3_3.length < 3518437208883 then (spec_l1Cur_file.l1 k3 (x3_3 ++ [(⟨240,(⟨#[88,89,90,48,48,48,57]⟩ : ByteArray) ++ (strOfNums y224),(((x3_3.length : Int) % 2) == 0),1⟩ : S52)]) x8_130 (wrap64 (20 + t220)) s0_0 t221 t222 x186000_130 x186001_130 x186002_130 x186003_130) else (none)) else (none))) = some (r1,r2,r3):=H
                 have A150:=Aside0.mk A1500
                 clear A1500
                 obtain ⟨y224,hy224⟩ : ∃ y_ : List Int,y_ = (([t223] : List Int)):=⟨_,rfl⟩
                 replace H : (if 7 + (strOfNums y224).size ≤ 9223372036854775807 then (if x3_3.length < 3518437208883 then (spec_l1Cur_file.l1 k3 (x3_3 ++ [(⟨240,(⟨#[88,89,90,48,48,48,57]⟩ : ByteArray) ++ (strOfNums y224),(((x3_3.length : Int) % 2) == 0),1⟩ : S52)]) x8_130 (wrap64 (20 + t220)) s0_0 t221 t222 x186000_130 x186001_130 x186002_130 x186003_130) else (none)) else (none)) = some (r1,r2,r3):=by (have H2_:=(Option.bind_some _ _).symm.trans H;rw [hy224];with_reducible exact H2_)
                 have Ny224:=Aside0.mk hy224
                 clear hy224
                 by_cases c151 : 7 + (strOfNums y224).size ≤ 9223372036854775807
                 ·rw [if_pos c151] at H
                  have c151b0:=eq_true c151
                  have c151b1 : decide (7 + (strOfNums y224).size ≤ 9223372036854775807) = true:=decide_eq_true c151
                  try have c151b2 : (9223372036854775807 < 7 + (strOfNums y224).size) = False:=eq_false (Nat.not_lt.2 c151)
                  by_cases c152 : x3_3.length < 3518437208883
                  ·rw [if_pos c152] at H
                   have LMc152:=Aside0.mk c152
                   clear c152
                   obtain ⟨y227,hy227⟩ : ∃ y_ : List (S52),y_ = (x3_3 ++ [(⟨240,(⟨#[88,89,90,48,48,48,57]⟩ : ByteArray) ++ (strOfNums y224),(((x3_3.length : Int) % 2) == 0),1⟩ : S52)]):=⟨_,rfl⟩
                   replace H : (spec_l1Cur_file.l1 k3 y227 x8_130 (wrap64 (20 + t220)) s0_0 t221 t222 x186000_130 x186001_130 x186002_130 x186003_130) = some (r1,r2,r3):=by (rw [hy227];with_reducible exact H)
                   have Ny227:=Aside0.mk hy227
                   clear hy227
                   have H':=Aside0.mk H
                   clear H
                   obtain ⟨Ao153,co153,eo153,_⟩ := Kd.Q_slice HO_3.out
                   subst eo153
                   go_wp2_with (first | ((with_reducible refine gate_callee (f:=53) rfl ?_);refine goesL_ (some 124) rfl rfl Try.func53 (by kernel_rfl) rfl #[.string (⟨#[88,89,90,48,48,48,57]⟩ : ByteArray)] rfl (by (try simp only [List.map_toArray,List.map_cons,List.map_nil]);rfl) ?_;(with_reducible refine (spec_l2Check.calls k3 (⟨#[88,89,90,48,48,48,57]⟩ : ByteArray) t223 _ A150.out).mono ?_);rintro e w' ⟨rfl,⟨nd,rfl⟩⟩;refine ⟨_,rfl, ?_⟩) | ((with_reducible refine gate_dst (N:=125) rfl ?_);refine Kd.R_lit (Kd.int .u8) _ 5 ?hg (N:=125) ?hd (xs:=([t223] : List Int)) (inner := [.int .u8 t223]) (ok:=fun _ => True) (okp:=fun _ => True) ?hr ?hp (fun _ hk => hk) trivial (Below.refl _ _) (Nat.le_refl _) (by simp) ?_;(case hd => rfl);(case hg => rfl);(case hr => (go_simp;done));(case hp => exact (Reps.one (show Kd.M (Kd.int .u8) _ _ _ t223 [.int .u8 t223] from rfl) (Reps.none _ _)));intro v225 w154 ho155 hb hg_ hnew_;clear hg_ hnew_;(rw [← Ny224.out] at ho155);have n0_:=Aside0.mk (Kd.Q_below (by (with_reducible repeat (apply Kd.Q_drewN));exact HO_3.out) hb);have n1_:=Aside0.mk (Kd.R_lower ho155 (keep_size (w:=w) (g:=g) (row:=none) (by repeat ((with_reducible first | exact HK.out | apply keep_drewN)))));have n2_:=Aside0.mk (blk_below (g:=gb185) (o := .cells #[.int .i64 x186000_130, .string x186001_130, .bool x186002_130, .int .i64 x186003_130] 52 (0,0)) (by (with_reducible repeat (refine blk_drewN ?_ _));exact BK185.out) hb);have n3_:=Aside0.mk (IsS61.below (by repeat ((with_reducible first | exact HI0.out | apply IsS61.drewN))) hb);have n4_:=Aside0.mk (KeepBut.trans (by repeat ((with_reducible first | exact HK.out | apply keep_drewN))) (KeepBut.of_below hb g none) (.inl rfl));have n5_:=Aside0.mk (below_step (by repeat ((with_reducible first | exact HB.out | apply pw_below_drewN))) hb);clear HO_3;clear BK185;clear HI0;clear HK;clear HB;have HO_3:=n0_;have HO226:=n1_;have BK185:=n2_;have HI0:=n3_;have HK:=n4_;have HB:=n5_;clear n0_ n1_ n2_ n3_ n4_ n5_;clear hb ho155;have hcv156:=own_string (P:=Try.prog) Try.underlying22 Try.underlying5 Try.underlying9 (Kd.own_of_R HO226.out)) | ((with_reducible refine gate_builtin (b := .append) (xs:=#[.tmp 128, .tmp 135]) rfl ?_);at_builtin;refine Kd.Q_append k52 w.heap.size rfl (.tmp 128) (.tmp 135) 24 52 (.agg #[(.int .i64 0),(.string ⟨#[]⟩),(.bool false),(.int .i64 0)]) 40 rfl Try.underlying24 info52 rfl (by decide) (by omega) (.slice Ao153 x3_3.length co153) x3_3 (⟨240,(⟨#[88,89,90,48,48,48,57]⟩ : ByteArray) ++ (strOfNums y224),(((x3_3.length : Int) % 2) == 0),1⟩ : S52) [.int .i64 240, .string ((⟨#[88,89,90,48,48,48,57]⟩ : ByteArray) ++ (strOfNums y224)), .bool (((x3_3.length : Int) % 2) == 0), .int .i64 1] (fun k_ => k_ ≠ gb185) (fun _ => False) rfl rfl ?aP (fun _ hk => hk.elim) ?aF ?aO (Below.refl _ _) ?aS ?aL ?_;(case aP => exact k52_mkM _ _ _ (⟨240,(⟨#[88,89,90,48,48,48,57]⟩ : ByteArray) ++ (strOfNums y224),(((x3_3.length : Int) % 2) == 0),1⟩ : S52));(case aF => exact (fun k_ hk => Kd.freshB (g:=gb185) (o := .cells #[.int .i64 x186000_130, .string x186001_130, .bool x186002_130, .int .i64 x186003_130] 52 (0,0)) (by exact BK185.out) k_ hk));(case aO => exact (by exact HO_3.out));(case aS => exact (keep_size (w:=w) (g:=g) (row:=none) (by exact HK.out)));(case aL => have:=LMc152.out;omega);intro v228 w157 ho hb hg hat;rw [← Ny227.out] at ho;have n0_:=Aside0.mk (blk_grown (g:=gb185) (o := .cells #[.int .i64 x186000_130, .string x186001_130, .bool x186002_130, .int .i64 x186003_130] 52 (0,0)) (by exact BK185.out) hg (Kd.Q_away HO_3.out (fun _ hk => hk)));have n1_:=Aside0.mk (IsS61.grownX3 HI0.out (by exact HI0.out) hg (IsS61.own_neQ HI0.out HO_3.out (by decide)));have n2_:=Aside0.mk (Kd.R_over' (by exact HO226.out) (Kd.Q_typed (by exact HO_3.out)) (by decide) hg);have n3_:=Aside0.mk (below_weaken (by exact HB.out) HL.out hb);have n4_:=Aside0.mk (KeepBut.trans (by exact HK.out) (KeepBut.of_grown hg g) (Kd.Q_base2 HO_3.out));have n5_:=Aside0.mk (ho);clear BK185;clear HI0;clear HO226;clear HB;clear HK;clear HO_3;have BK185:=n0_;have HI0:=n1_;have HO226:=n2_;have HB:=n3_;have HK:=n4_;have HO229:=n5_;clear n0_ n1_ n2_ n3_ n4_ n5_;clear ho hb hg hat))
                   go_roundg k3
                   case measure => have:=HK1.out;have:=HJ130.out;have:=HK3.out;omega
                   case rel => exact ⟨(y227),H',⟨by have:=HK1.out;have:=HJ130.out;have:=HK3.out;omega⟩,⟨by exact HO229.out⟩,⟨by exact BK185.out⟩,⟨by exact HI0.out⟩,⟨by exact HK.out⟩,⟨by exact HB.out⟩⟩
                  ·rw [if_neg c152] at H
                   exact absurd H (by simp)
                 ·rw [if_neg c151] at H
                  exact absurd H (by simp)
                ·rw [if_neg c149] at H
                 have c149b0 : decide ((x3_3.length : Int) < (wrap64 (20 + t220))) = false:=decide_eq_false c149
                 clear c149
                 by_cases c158 : 0 ≤ x8_130
                 ·rw [if_pos c158] at H
                  have c158b0 : decide (0 ≤ x8_130) = true:=decide_eq_true c158
                  clear c158
                  by_cases c159 : x8_130 < (x3_3.length : Int)
                  ·rw [if_pos c159] at H
                   have c159b0 : decide (x8_130 < (x3_3.length : Int)) = true:=decide_eq_true c159
                   clear c159
                   obtain ⟨y230,hy230⟩ : ∃ y_ : List (S52),y_ = (x3_3.set (x8_130 : Int).toNat (⟨x186000_130,x186001_130,x186002_130,x186003_130⟩ : S52)):=⟨_,rfl⟩
                   replace H : (some (y230,t221,t222)) = some (r1,r2,r3):=by (rw [hy230];with_reducible exact H)
                   have Ny230:=Aside0.mk hy230
                   clear hy230
                   simp only [Option.some.injEq,Prod.mk.injEq] at H
                   obtain ⟨rfl,rfl,rfl⟩ := H
                   obtain ⟨Ao161,co161,eo161,_⟩ := Kd.Q_slice HO_3.out
                   subst eo161
                   have hnb162:=NB185_0.out
                   have hnc162:=NB0_185.out
                   have hcz163_0 : wr.cell? ⟨gb185,0,none⟩ = some (.int .i64 x186000_130):=(blk_cell BK185.out 0).trans rfl
                   have hcz163_1 : wr.cell? ⟨gb185,1,none⟩ = some (.string x186001_130):=(blk_cell BK185.out 1).trans rfl
                   have hcz163_2 : wr.cell? ⟨gb185,2,none⟩ = some (.bool x186002_130):=(blk_cell BK185.out 2).trans rfl
                   have hcz163_3 : wr.cell? ⟨gb185,3,none⟩ = some (.int .i64 x186003_130):=(blk_cell BK185.out 3).trans rfl
                   have hfz163_0:=blk_frozen BK185.out 0
                   have hfz163_1:=blk_frozen BK185.out 1
                   have hfz163_2:=blk_frozen BK185.out 2
                   have hfz163_3:=blk_frozen BK185.out 3
                   have p160 : 0 ≤ (x8_130 : Int):=of_decide_eq_true (by (with_reducible assumption))
                   have q160 : (x8_130 : Int) < ((x3_3.length : Int) : Int):=of_decide_eq_true (by (with_reducible assumption))
                   obtain ⟨go160,oo160,co160,eo160,gb160,gl160,cl160,HG160⟩ := Kd.Q_form HO_3.out (by omega)
                   (cases eo160)
                   have GB160:=Aside0.mk gb160
                   have GG160:=Aside0.mk HG160
                   clear gb160 gl160 HG160
                   obtain ⟨ce160,hcl160,hM160,hcc160,hfr160⟩ := Kd.Q_elem HO_3.out z52 (x8_130 : Int) p160 q160
                   obtain rfl:=k52_openM hM160
                   have hx160_0 : wr.cell? ⟨go160,oo160 + (x8_130 : Int).toNat * 4,none⟩ = some (.int .i64 ((rd_T52 x3_3 x8_130).f0)):=hcc160 0 _ rfl
                   have hx160_1 : wr.cell? ⟨go160,oo160 + (x8_130 : Int).toNat * 4 + 1,none⟩ = some (.string ((rd_T52 x3_3 x8_130).f1)):=hcc160 1 _ rfl
                   have hx160_2 : wr.cell? ⟨go160,oo160 + (x8_130 : Int).toNat * 4 + 2,none⟩ = some (.bool ((rd_T52 x3_3 x8_130).f2)):=hcc160 2 _ rfl
                   have hx160_3 : wr.cell? ⟨go160,oo160 + (x8_130 : Int).toNat * 4 + 3,none⟩ = some (.int .i64 ((rd_T52 x3_3 x8_130).f3)):=hcc160 3 _ rfl
                   have hf160_0 : wr.frozen? ⟨go160,oo160 + (x8_130 : Int).toNat * 4,none⟩ = false:=hfr160 0
                   have hf160_1 : wr.frozen? ⟨go160,oo160 + (x8_130 : Int).toNat * 4 + 1,none⟩ = false:=hfr160 1
                   have hf160_2 : wr.frozen? ⟨go160,oo160 + (x8_130 : Int).toNat * 4 + 2,none⟩ = false:=hfr160 2
                   have hf160_3 : wr.frozen? ⟨go160,oo160 + (x8_130 : Int).toNat * 4 + 3,none⟩ = false:=hfr160 3
                   clear hcl160 hcc160 hfr160;(try clear hM160)
                   replace p160:=eq_true p160
                   replace q160:=eq_true q160
                   have HX164:=Aside0.mk (show Kd.Q k52 52 wr w.heap.size (fun k_ => k_ ≠ gb185) (.slice (some ⟨go160,oo160,none⟩) x3_3.length co161) x3_3 from (by exact HO_3.out))
                   obtain ⟨ce164,hcl164,hM164,hcc164,hfr164⟩ := Kd.Q_elem HX164.out z52 (x8_130 : Int) (of_decide_eq_true (by (with_reducible assumption))) (by have h_ : (x8_130 : Int) < ((x3_3.length : Int) : Int):=of_decide_eq_true (by (with_reducible assumption));exact h_)
                   obtain rfl:=k52_openM hM164
                   have HP164:=Kd.Q_seg HX164.out (x8_130 : Int) (of_decide_eq_true (by (with_reducible assumption))) (by have h_ : (x8_130 : Int) < ((x3_3.length : Int) : Int):=of_decide_eq_true (by (with_reducible assumption));exact h_) (seg := [.int .i64 x186000_130, .string x186001_130, .bool x186002_130, .int .i64 x186003_130]) (j:=0) hcl164 hcc164 (show 4 ≤ 4 from by decide) (x':=(⟨x186000_130,x186001_130,x186002_130,x186003_130⟩ : S52)) (k52_mkM _ _ _ (⟨x186000_130,x186001_130,x186002_130,x186003_130⟩ : S52) ) (fun _ hk => hk)
                   have hx164_0:=hcc164 0 _ rfl
                   (try simp only [show (k52).sz = 4 from rfl,Nat.mul_one,Nat.add_zero] at hx164_0)
                   have hf164_0:=hfr164 0
                   (try simp only [show (k52).sz = 4 from rfl,Nat.mul_one,Nat.add_zero] at hf164_0)
                   have hx164_1:=hcc164 1 _ rfl
                   (try simp only [show (k52).sz = 4 from rfl,Nat.mul_one,Nat.add_zero] at hx164_1)
                   have hf164_1:=hfr164 1
                   (try simp only [show (k52).sz = 4 from rfl,Nat.mul_one,Nat.add_zero] at hf164_1)
                   have hx164_2:=hcc164 2 _ rfl
                   (try simp only [show (k52).sz = 4 from rfl,Nat.mul_one,Nat.add_zero] at hx164_2)
                   have hf164_2:=hfr164 2
                   (try simp only [show (k52).sz = 4 from rfl,Nat.mul_one,Nat.add_zero] at hf164_2)
                   have hx164_3:=hcc164 3 _ rfl
                   (try simp only [show (k52).sz = 4 from rfl,Nat.mul_one,Nat.add_zero] at hx164_3)
                   have hf164_3:=hfr164 3
                   (try simp only [show (k52).sz = 4 from rfl,Nat.mul_one,Nat.add_zero] at hf164_3)
                   clear hcl164 hcc164 hfr164;(try clear hM164)
                   go_wp2_with (((with_reducible refine gate_store (t:=52) (p:=140) rfl ?_);refine store_event (t:=52) (p:=140) (v:=?vo_w165) (w1:=((((wr.setCell ⟨go160,oo160 + (x8_130 : Int).toNat * 4,none⟩ (.int .i64 x186000_130)).setCell ⟨go160,oo160 + (x8_130 : Int).toNat * 4 + 1,none⟩ (.string x186001_130)).setCell ⟨go160,oo160 + (x8_130 : Int).toNat * 4 + 2,none⟩ (.bool x186002_130)).setCell ⟨go160,oo160 + (x8_130 : Int).toNat * 4 + 3,none⟩ (.int .i64 x186003_130))) ?hg ?ho ?hn ?hr ?_;(case ho => rfl);(case hg => rfl);(case hn => rfl);(case hr => (go_simp;done));intro w165 hw;have hg : wr.grownBy w165 (some go160):=(by rw [hw];exact HP164.2);have hp_ : Kd.Q k52 52 w165 w.heap.size (fun k_ => k_ ≠ gb185) (.slice (some ⟨go160,oo160,none⟩) x3_3.length co161) y230:=(by rw [hw,Ny230.out];exact HP164.1);clear HP164;have n0_:=Aside0.mk (hp_);have n1_:=Aside0.mk (blk_grown (g:=gb185) (o := .cells #[.int .i64 x186000_130, .string x186001_130, .bool x186002_130, .int .i64 x186003_130] 52 (0,0)) (by exact BK185.out) hg (Kd.Q_away HO_3.out (fun _ hk => hk)));have n2_:=Aside0.mk (IsS61.grownX3 HI0.out (by exact HI0.out) hg (IsS61.own_neQ HI0.out HO_3.out (by decide)));have n3_:=Aside0.mk ((by rw [hw];exact below_set (below_set (below_set (below_set (HB.out) (Nat.le_trans HL.out GB160.out)) (Nat.le_trans HL.out GB160.out)) (Nat.le_trans HL.out GB160.out)) (Nat.le_trans HL.out GB160.out) : Below w0.heap.size w0 w165));have n4_:=Aside0.mk (KeepBut.trans (by exact HK.out) (KeepBut.of_grown hg g) (Kd.Q_base2 HO_3.out));clear HO_3;clear BK185;clear HI0;clear HB;clear HK;have HO_3:=n0_;have BK185:=n1_;have HI0:=n2_;have HB:=n3_;have HK:=n4_;clear n0_ n1_ n2_ n3_ n4_;clear hg hw hp_))
                   go_ret
                   exact ⟨_,by rfl,by exact Kd.Q_mono HO_3.out (fun _ hk => trivial),by exact HI0.out,by exact HB.out,by exact HK.out⟩
                  ·rw [if_neg c159] at H
                   exact absurd H (by simp)
                 ·rw [if_neg c158] at H
                  exact absurd H (by simp)
           ·rw [if_neg c130] at H
            have c130b0 : (t186 == 4) = false:=beq_eq_false_iff_ne.mpr c130
            have c130b1 : (t186 != 4) = true:=bne_iff_ne.mpr c130
            obtain ⟨y231,hy231⟩ : ∃ y_ : List (S52),y_ = (x3_1.set (t181 : Int).toNat (⟨(rd_T52 x3_1 t181).f0,(rd_T52 x3_1 t181).f1,(rd_T52 x3_1 t181).f2,(rd_T52 x3_1 t181).f3⟩ : S52)):=⟨_,rfl⟩
            replace H : (some (y231,t187,t188)) = some (r1,r2,r3):=by (rw [hy231];with_reducible exact H)
            have Ny231:=Aside0.mk hy231
            clear hy231
            simp only [Option.some.injEq,Prod.mk.injEq] at H
            obtain ⟨rfl,rfl,rfl⟩ := H
            obtain ⟨Ao167,co167,eo167,_⟩ := Kd.Q_slice HO_3.out
            subst eo167
            go_wp2_with (first | ((with_reducible refine gate_callee (f:=45) rfl ?_);refine goesL_ (some 70) rfl rfl Try.func45 (by kernel_rfl) rfl #[.pointer (some ⟨g,0,none⟩), .int .i64 (x3_1.length : Int)] rfl (by (try simp only [List.map_toArray,List.map_cons,List.map_nil]);rfl) ?_;(with_reducible refine (spec_l1Cur_pick.calls g s0_0 x1001_1 x1002_1 (x3_1.length : Int) t181 t182 t183 w0 _ ?side1 ?side2 A59.out).mono ?_);(case side1 => exact HI0.out);(case side2 => exact HB.out);rintro e w168 ⟨rfl,hi,hb,hk⟩;refine ⟨_,rfl, ?_⟩;have n0_:=Aside0.mk (Kd.Q_mono (Kd.Q_keep (IsS61.apartQ (show IsS61 w0 _ g s0_0 x1001_1 x1002_1 from by exact HI0.out) (by exact HO_3.out) (by decide)) hk (fun _ h => h.2)) (fun _ h => h.1));have n1_:=Aside0.mk (KeepBut.trans (by exact HK.out) hk (.inl rfl));have n2_:=Aside0.mk (hb);have n3_:=Aside0.mk (hi);clear HO_3;clear HK;clear HB;clear HI0;have HO_3:=n0_;have HK:=n1_;have HB:=n2_;have HI0:=n3_;clear n0_ n1_ n2_ n3_;(try clear hb);(try clear hk);(try clear hi);have p184 : 0 ≤ (t181 : Int):=of_decide_eq_true (by (with_reducible assumption));have q184 : t181 < (x3_1.length : Int):=of_decide_eq_true (by (with_reducible assumption));obtain ⟨ad184,e184,hx184_0,hx184_1,hx184_2,hx184_3⟩ := at_T52 (Kd.Q_reads' HO_3.out).2.2 t181 p184 q184;cases e184;replace p184:=eq_true p184;replace q184:=eq_true q184) | ((with_reducible refine gate_dst (N:=9) rfl ?_);refine box_event ?hg (N:=9) ?hd (cs:=#[.int .i64 0, .string (⟨#[]⟩ : ByteArray), .bool false, .int .i64 0]) (t:=52) ?hr ?_;(case hd => rfl);(case hg => rfl);(case hr => (go_simp;done));intro gb185 hg w169 hbox hb;have n0_:=Aside0.mk (Kd.Q_below (Kd.Q_elderB (by exact HO_3.out) gb185 (Nat.le_of_eq hg.symm)) hb);have n1_:=Aside0.mk (IsS61.below (by exact HI0.out) hb);have n2_:=Aside0.mk (KeepBut.trans (by exact HK.out) (KeepBut.of_below hb g none) (.inl rfl));have n3_:=Aside0.mk (below_step (by exact HB.out) hb);have n4_:=Aside0.mk (hbox);have n5_:=Aside0.mk ((by rw [hg];exact (keep_size (w:=w) (g:=g) (row:=none) (by exact HK.out)) : w.heap.size ≤ gb185));have n6_:=Aside0.mk ((Nat.le_trans HW0.out (by rw [hg];exact (keep_size (w:=w) (g:=g) (row:=none) (by exact HK.out)) : w.heap.size ≤ gb185) : w0.heap.size ≤ gb185));have n7_:=Aside0.mk ((by rw [hg];exact Nat.ne_of_lt (IsS61.lt (show IsS61 w0 _ g s0_0 t182 t183 from by exact HI0.out)) : g ≠ gb185));have n8_:=Aside0.mk ((by rw [hg];exact Nat.ne_of_gt (IsS61.lt (show IsS61 w0 _ g s0_0 t182 t183 from by exact HI0.out)) : gb185 ≠ g));clear HO_3;clear HI0;clear HK;clear HB;have HO_3:=n0_;have HI0:=n1_;have HK:=n2_;have HB:=n3_;have BK185:=n4_;have GW185:=n5_;have GE185:=n6_;have NB0_185:=n7_;have NB185_0:=n8_;clear n0_ n1_ n2_ n3_ n4_ n5_ n6_ n7_ n8_;clear hb hbox hg;have hnb170:=NB185_0.out;have hnc170:=NB0_185.out;have hcz171_0 : w169.cell? ⟨gb185,0,none⟩ = some (.int .i64 0):=(blk_cell BK185.out 0).trans rfl;have hcz171_1 : w169.cell? ⟨gb185,1,none⟩ = some (.string (⟨#[]⟩ : ByteArray)):=(blk_cell BK185.out 1).trans rfl;have hcz171_2 : w169.cell? ⟨gb185,2,none⟩ = some (.bool false):=(blk_cell BK185.out 2).trans rfl;have hcz171_3 : w169.cell? ⟨gb185,3,none⟩ = some (.int .i64 0):=(blk_cell BK185.out 3).trans rfl;have hfz171_0:=blk_frozen BK185.out 0;have hfz171_1:=blk_frozen BK185.out 1;have hfz171_2:=blk_frozen BK185.out 2;have hfz171_3:=blk_frozen BK185.out 3) | ((with_reducible refine gate_callee (f:=45) rfl ?_);refine goesL_ (some 76) rfl rfl Try.func45 (by kernel_rfl) rfl #[.pointer (some ⟨g,0,none⟩), .int .i64 40] rfl (by (try simp only [List.map_toArray,List.map_cons,List.map_nil]);rfl) ?_;(with_reducible refine (spec_l1Cur_pick.calls g s0_0 t182 t183 40 t186 t187 t188 w0 _ ?side1 ?side2 A62.out).mono ?_);(case side1 => repeat ((with_reducible first | exact HI0.out | refine IsS61.far ?_ NB0_185.out _)));(case side2 => repeat ((with_reducible first | exact HB.out | refine below_set ?_ GE185.out)));rintro e w172 ⟨rfl,hi,hb,hk⟩;refine ⟨_,rfl, ?_⟩;have n0_:=Aside0.mk (Kd.Q_mono (Kd.Q_keep (IsS61.apartQ (show IsS61 w0 _ g s0_0 t182 t183 from by repeat ((with_reducible first | exact HI0.out | refine IsS61.far ?_ NB0_185.out _))) (by exact (Kd.Q_mono (Kd.Q_far (p:=⟨gb185,3,none⟩) (Kd.Q_far (p:=⟨gb185,2,none⟩) (Kd.Q_far (p:=⟨gb185,1,none⟩) (Kd.Q_far (p:=⟨gb185,0,none⟩) (Kd.Q_mono HO_3.out (fun k_ hk => (⟨hk,hk.2⟩ : _ ∧ k_ ≠ gb185))) (fun _ hk => hk.2) (.int .i64 ((rd_T52 x3_1 t181).f0))) (fun _ hk => hk.2) (.string ((rd_T52 x3_1 t181).f1))) (fun _ hk => hk.2) (.bool ((rd_T52 x3_1 t181).f2))) (fun _ hk => hk.2) (.int .i64 ((rd_T52 x3_1 t181).f3))) (fun _ h_ => h_.1))) (by decide)) hk (fun _ h => h.2)) (fun _ h => h.1));have n1_:=Aside0.mk (KeepBut.blk hk (g':=gb185) (o := .cells #[.int .i64 ((rd_T52 x3_1 t181).f0), .string ((rd_T52 x3_1 t181).f1), .bool ((rd_T52 x3_1 t181).f2), .int .i64 ((rd_T52 x3_1 t181).f3)] 52 (0,0)) (by refine blk_put (cs:=#[.int .i64 ((rd_T52 x3_1 t181).f0), .string ((rd_T52 x3_1 t181).f1), .bool ((rd_T52 x3_1 t181).f2), .int .i64 0]) ?_ 3 _ rfl;refine blk_put (cs:=#[.int .i64 ((rd_T52 x3_1 t181).f0), .string ((rd_T52 x3_1 t181).f1), .bool false, .int .i64 0]) ?_ 2 _ rfl;refine blk_put (cs:=#[.int .i64 ((rd_T52 x3_1 t181).f0), .string (⟨#[]⟩ : ByteArray), .bool false, .int .i64 0]) ?_ 1 _ rfl;refine blk_put (cs:=#[.int .i64 0, .string (⟨#[]⟩ : ByteArray), .bool false, .int .i64 0]) ?_ 0 _ rfl;exact BK185.out) NB185_0.out (by simp));have n2_:=Aside0.mk (KeepBut.trans (by repeat ((with_reducible first | exact HK.out | refine keep_far ?_ GW185.out _))) hk (.inl rfl));have n3_:=Aside0.mk (hb);have n4_:=Aside0.mk (hi);clear HO_3;clear BK185;clear HK;clear HB;clear HI0;have HO_3:=n0_;have BK185:=n1_;have HK:=n2_;have HB:=n3_;have HI0:=n4_;clear n0_ n1_ n2_ n3_ n4_;(try clear hb);(try clear hk);(try clear hi);have hcz173_0 : w172.cell? ⟨gb185,0,none⟩ = some (.int .i64 ((rd_T52 x3_1 t181).f0)):=(blk_cell BK185.out 0).trans rfl;have hcz173_1 : w172.cell? ⟨gb185,1,none⟩ = some (.string ((rd_T52 x3_1 t181).f1)):=(blk_cell BK185.out 1).trans rfl;have hcz173_2 : w172.cell? ⟨gb185,2,none⟩ = some (.bool ((rd_T52 x3_1 t181).f2)):=(blk_cell BK185.out 2).trans rfl;have hcz173_3 : w172.cell? ⟨gb185,3,none⟩ = some (.int .i64 ((rd_T52 x3_1 t181).f3)):=(blk_cell BK185.out 3).trans rfl;have hfz173_0:=blk_frozen BK185.out 0;have hfz173_1:=blk_frozen BK185.out 1;have hfz173_2:=blk_frozen BK185.out 2;have hfz173_3:=blk_frozen BK185.out 3;have p166 : 0 ≤ (t181 : Int):=of_decide_eq_true (by (with_reducible assumption));have q166 : (t181 : Int) < ((x3_1.length : Int) : Int):=of_decide_eq_true (by (with_reducible assumption));obtain ⟨go166,oo166,co166,eo166,gb166,gl166,cl166,HG166⟩ := Kd.Q_form HO_3.out (by omega);(cases eo166);have GB166:=Aside0.mk gb166;have GG166:=Aside0.mk HG166;clear gb166 gl166 HG166;(simp only [add_at] at hx184_0);(simp only [add_at] at hx184_1);(simp only [add_at] at hx184_2);(simp only [add_at] at hx184_3);obtain ⟨ce166,hcl166,hM166,hcc166,hfr166⟩ := Kd.Q_elem HO_3.out z52 (t181 : Int) p166 q166;obtain rfl:=k52_openM hM166;have hx166_0 : w172.cell? ⟨go166,oo166 + (t181 : Int).toNat * 4,none⟩ = some (.int .i64 ((rd_T52 x3_1 t181).f0)):=hcc166 0 _ rfl;have hx166_1 : w172.cell? ⟨go166,oo166 + (t181 : Int).toNat * 4 + 1,none⟩ = some (.string ((rd_T52 x3_1 t181).f1)):=hcc166 1 _ rfl;have hx166_2 : w172.cell? ⟨go166,oo166 + (t181 : Int).toNat * 4 + 2,none⟩ = some (.bool ((rd_T52 x3_1 t181).f2)):=hcc166 2 _ rfl;have hx166_3 : w172.cell? ⟨go166,oo166 + (t181 : Int).toNat * 4 + 3,none⟩ = some (.int .i64 ((rd_T52 x3_1 t181).f3)):=hcc166 3 _ rfl;have hf166_0 : w172.frozen? ⟨go166,oo166 + (t181 : Int).toNat * 4,none⟩ = false:=hfr166 0;have hf166_1 : w172.frozen? ⟨go166,oo166 + (t181 : Int).toNat * 4 + 1,none⟩ = false:=hfr166 1;have hf166_2 : w172.frozen? ⟨go166,oo166 + (t181 : Int).toNat * 4 + 2,none⟩ = false:=hfr166 2;have hf166_3 : w172.frozen? ⟨go166,oo166 + (t181 : Int).toNat * 4 + 3,none⟩ = false:=hfr166 3;clear hcl166 hcc166 hfr166;(try clear hM166);replace p166:=eq_true p166;replace q166:=eq_true q166;have n_:=Aside0.mk (Kd.Q_mono (ok':=(fun k_ => k_ ≠ gb185)) HO_3.out (fun k_ hk => hk.2));clear HO_3;have HO_3:=n_;clear n_;have HX174:=Aside0.mk (show Kd.Q k52 52 w172 w.heap.size (fun k_ => k_ ≠ gb185) (.slice (some ⟨go166,oo166,none⟩) x3_1.length co167) x3_1 from (by exact HO_3.out));obtain ⟨ce174,hcl174,hM174,hcc174,hfr174⟩ := Kd.Q_elem HX174.out z52 (t181 : Int) (of_decide_eq_true (by (with_reducible assumption))) (by have h_ : (t181 : Int) < ((x3_1.length : Int) : Int):=of_decide_eq_true (by (with_reducible assumption));exact h_);obtain rfl:=k52_openM hM174;have HP174:=Kd.Q_seg HX174.out (t181 : Int) (of_decide_eq_true (by (with_reducible assumption))) (by have h_ : (t181 : Int) < ((x3_1.length : Int) : Int):=of_decide_eq_true (by (with_reducible assumption));exact h_) (seg := [.int .i64 ((rd_T52 x3_1 t181).f0), .string ((rd_T52 x3_1 t181).f1), .bool ((rd_T52 x3_1 t181).f2), .int .i64 ((rd_T52 x3_1 t181).f3)]) (j:=0) hcl174 hcc174 (show 4 ≤ 4 from by decide) (x':=(⟨(rd_T52 x3_1 t181).f0,(rd_T52 x3_1 t181).f1,(rd_T52 x3_1 t181).f2,(rd_T52 x3_1 t181).f3⟩ : S52)) (k52_mkM _ _ _ (⟨(rd_T52 x3_1 t181).f0,(rd_T52 x3_1 t181).f1,(rd_T52 x3_1 t181).f2,(rd_T52 x3_1 t181).f3⟩ : S52) ) (fun _ hk => hk);have hx174_0:=hcc174 0 _ rfl;(try simp only [show (k52).sz = 4 from rfl,Nat.mul_one,Nat.add_zero] at hx174_0);have hf174_0:=hfr174 0;(try simp only [show (k52).sz = 4 from rfl,Nat.mul_one,Nat.add_zero] at hf174_0);have hx174_1:=hcc174 1 _ rfl;(try simp only [show (k52).sz = 4 from rfl,Nat.mul_one,Nat.add_zero] at hx174_1);have hf174_1:=hfr174 1;(try simp only [show (k52).sz = 4 from rfl,Nat.mul_one,Nat.add_zero] at hf174_1);have hx174_2:=hcc174 2 _ rfl;(try simp only [show (k52).sz = 4 from rfl,Nat.mul_one,Nat.add_zero] at hx174_2);have hf174_2:=hfr174 2;(try simp only [show (k52).sz = 4 from rfl,Nat.mul_one,Nat.add_zero] at hf174_2);have hx174_3:=hcc174 3 _ rfl;(try simp only [show (k52).sz = 4 from rfl,Nat.mul_one,Nat.add_zero] at hx174_3);have hf174_3:=hfr174 3;(try simp only [show (k52).sz = 4 from rfl,Nat.mul_one,Nat.add_zero] at hf174_3);clear hcl174 hcc174 hfr174;(try clear hM174)) | ((with_reducible refine gate_store (t:=52) (p:=140) rfl ?_);refine store_event (t:=52) (p:=140) (v:=?vo_w175) (w1:=((((w172.setCell ⟨go166,oo166 + (t181 : Int).toNat * 4,none⟩ (.int .i64 ((rd_T52 x3_1 t181).f0))).setCell ⟨go166,oo166 + (t181 : Int).toNat * 4 + 1,none⟩ (.string ((rd_T52 x3_1 t181).f1))).setCell ⟨go166,oo166 + (t181 : Int).toNat * 4 + 2,none⟩ (.bool ((rd_T52 x3_1 t181).f2))).setCell ⟨go166,oo166 + (t181 : Int).toNat * 4 + 3,none⟩ (.int .i64 ((rd_T52 x3_1 t181).f3)))) ?hg ?ho ?hn ?hr ?_;(case ho => rfl);(case hg => rfl);(case hn => rfl);(case hr => (go_simp;done));intro w175 hw;have hg : w172.grownBy w175 (some go166):=(by rw [hw];exact HP174.2);have hp_ : Kd.Q k52 52 w175 w.heap.size (fun k_ => k_ ≠ gb185) (.slice (some ⟨go166,oo166,none⟩) x3_1.length co167) y231:=(by rw [hw,Ny231.out];exact HP174.1);clear HP174;have n0_:=Aside0.mk (hp_);have n1_:=Aside0.mk (IsS61.grownX3 HI0.out (by exact HI0.out) hg (IsS61.own_neQ HI0.out HO_3.out (by decide)));have n2_:=Aside0.mk (blk_grown (g:=gb185) (o := .cells #[.int .i64 ((rd_T52 x3_1 t181).f0), .string ((rd_T52 x3_1 t181).f1), .bool ((rd_T52 x3_1 t181).f2), .int .i64 ((rd_T52 x3_1 t181).f3)] 52 (0,0)) (by exact BK185.out) hg (Kd.Q_away HO_3.out (fun _ hk => hk)));have n3_:=Aside0.mk ((by rw [hw];exact below_set (below_set (below_set (below_set (HB.out) (Nat.le_trans HL.out GB166.out)) (Nat.le_trans HL.out GB166.out)) (Nat.le_trans HL.out GB166.out)) (Nat.le_trans HL.out GB166.out) : Below w0.heap.size w0 w175));have n4_:=Aside0.mk (KeepBut.trans (by exact HK.out) (KeepBut.of_grown hg g) (Kd.Q_base2 HO_3.out));clear HO_3;clear HI0;clear BK185;clear HB;clear HK;have HO_3:=n0_;have HI0:=n1_;have BK185:=n2_;have HB:=n3_;have HK:=n4_;clear n0_ n1_ n2_ n3_ n4_;clear hg hw hp_))
            go_ret
            exact ⟨_,by rfl,by exact Kd.Q_mono HO_3.out (fun _ hk => trivial),by exact HI0.out,by exact HB.out,by exact HK.out⟩
      ·rw [if_neg c61] at H
       exact absurd H (by simp)
     ·rw [if_neg c60] at H
      exact absurd H (by simp)

end Go.Proofs.Yteebkbikpamkmaa.PFnHolds
