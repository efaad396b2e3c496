-- Written by a program of this session, over the kit's print (wip/xprint.py)
import Derived.Test.YtglidkabkkifnaaPFnExactReleaseAllx0
import Derived.Test.YtglidkabkkifnaaPFnExactReleaseAllx1
import Derived.Test.YtglidkabkkifnaaPFnExactReleaseAllx2
namespace Go.Proofs.Ytglidkabkkifnaa.PFnExactReleaseAll
open Go.RowKit Go.Proofs.YtglidkabkkifnaaW.PrintWords Go.Proofs.YtglidkabkkifnaaW.PrintLast Go.Proofs.YtglidkabkkifnaaW.PrintMore
attribute [local go_sem] max2_int min2_int max_two min_two max_three min_three max_four min_four   -- for this text's walks alone
set_option linter.unusedVariables false
set_option linter.unusedSimpArgs false

/-! ### impl_IsValidFile: function 22 -/
def impl_IsValidFile.f (k : Nat) (l0 : List (S55)) : Option (Bool):=(impl_conflictIn.f k l0).bind fun t114 => (some (t114 == (l0.length : Int)))
theorem impl_IsValidFile.mono : ∀ a0 k,LeO (impl_IsValidFile.f k a0) (impl_IsValidFile.f (k + 1) a0):=by
 intro a0 k
 unfold impl_IsValidFile.f
 repeat' first
   | (with_reducible exact impl_conflictIn.mono _ _)
   | (with_reducible exact LeO.refl _)
   | (with_reducible exact LeO.none _)
   | (with_reducible refine LeO.ite ?_ ?_)
   | (with_reducible refine LeO.bind ?_ (fun _ => ?_))
   | exact impl_conflictIn.mono _ _
   | exact LeO.none _
   | refine LeO.ite ?_ ?_
   | refine LeO.bind ?_ (fun _ => ?_)
set_option maxHeartbeats 8000000 in
set_option maxRecDepth 100000 in
theorem impl_IsValidFile.calls (k : Nat) (A0 : Option Addr) (c0 : Nat) (l0 : List (S55)) (r : Bool) (w : World) (hr0 : Kd.C k55 w A0 l0.length l0) (hc0 : l0.length ≤ c0) (h : impl_IsValidFile.f k l0 = some r) :
  Calls Try.prog 22 #[.slice A0 l0.length c0] w fun e w' => e = .returned (.bool r) ∧ Below w.heap.size w w':=by
 have HR0:=Aside0.mk hr0
 have HC0:=Aside0.mk hc0
 clear hr0 hc0
 have HB:=Aside0.mk (Below.refl w.heap.size w)
 have H : ((impl_conflictIn.f k l0).bind fun t114 => (some (t114 == (l0.length : Int)))) = some r:=h
 clear h
 replace H:=Option.bind_eq_some_iff.mp H
 obtain ⟨t114,A20,H⟩ := H
 replace H : (some (t114 == (l0.length : Int))) = some r:=H
 have A2:=Aside0.mk A20
 clear A20
 obtain rfl:=Option.some.inj H
 go_enter Try.func22,Try.ntmps22
 go_wp2_with (first | ((with_reducible refine gate_callee (f:=63) rfl ?_);refine goesL_ (some 4) rfl rfl Try.func63 (by kernel_rfl) rfl #[.slice A0 l0.length c0] rfl (by (try simp only [List.map_toArray,List.map_cons,List.map_nil]);first | done | rfl | (simp only [List.length_drop,List.length_take];rfl)) ?_;(with_reducible refine (impl_conflictIn.calls k _ _ l0 t114 _ ?side1 ?side2 A2.out).mono ?_);(case side1 => repeat (first | exact HR0.out | (with_reducible refine Kd.C_alloc ?_ _) | (with_reducible refine Kd.C_drewN ?_ _) | (with_reducible refine Kd.C_drew ?_)));(case side2 => exact HC0.out);rintro e w3 ⟨rfl,hb⟩;refine ⟨_,rfl, ?_⟩;have n0_:=Aside0.mk (below_step (by repeat (first | (with_reducible first | exact HB.out | apply below_alloc | apply pw_below_drewN | apply below_drew1) | exact HB.out)) hb);clear HB;have HB:=n0_;clear n0_;(try clear hb);(try clear hb2);(try clear hk);(try clear hi)))
 go_ret
 exact ⟨by first | rfl | (simp [errW_none,errW_some] <;> rfl) | (simp [*,errW_none,errW_some] <;> rfl),by repeat (first | (with_reducible first | exact HB.out | apply below_alloc | apply pw_below_drewN | apply below_drew1) | exact HB.out)⟩

/-! ### slices_Clone_impl_Entry: function 58 -/
def slices_Clone_impl_Entry.f (l0 : List (S55)) : Option ((List (S55))):=(some (([] : List (S55)) : List (S55))).bind fun y115 => (if y115.length + l0.length < 3518437208883 then (some (y115 ++ l0)) else (none))
set_option maxHeartbeats 8000000 in
set_option maxRecDepth 100000 in
theorem slices_Clone_impl_Entry.calls (A0 : Option Addr) (c0 : Nat) (l0 : List (S55)) (r : List (S55)) (w : World) (hr0 : Kd.C k55 w A0 l0.length l0) (hc0 : l0.length ≤ c0) (h : slices_Clone_impl_Entry.f l0 = some r) :
  Calls Try.prog 58 #[.slice A0 l0.length c0] w fun e w' => ∃ v0_ : Value,e = .returned (v0_) ∧ Kd.R k55 55 w' w.heap.size (fun _ => True) v0_ r ∧ Below w.heap.size w w':=by
 have HR0:=Aside0.mk hr0
 have HC0:=Aside0.mk hc0
 clear hr0 hc0
 have HB:=Aside0.mk (Below.refl w.heap.size w)
 have H : ((some (([] : List (S55)) : List (S55))).bind fun y115 => (if y115.length + l0.length < 3518437208883 then (some (y115 ++ l0)) else (none))) = some r:=h
 clear h
 obtain ⟨y115,hy115⟩ : ∃ y_ : List (S55),y_ = (([] : List (S55))):=⟨_,rfl⟩
 replace H : (if y115.length + l0.length < 3518437208883 then (some (y115 ++ l0)) else (none)) = some r:=by first | (rw [hy115];with_reducible exact H) | (have H2_:=(Option.bind_some _ _).symm.trans H;rw [hy115];with_reducible exact H2_) | (have H2_:=(Option.bind_some _ _).symm.trans H;with_reducible exact H2_) | with_reducible exact H | (rw [hy115];exact H) | exact H
 have Ny115:=Aside0.mk hy115
 clear hy115
 by_cases c2 : y115.length + l0.length < 3518437208883
 ·rw [if_pos c2] at H
  have LMc2:=Aside0.mk c2
  clear c2
  obtain ⟨y118,hy118⟩ : ∃ y_ : List (S55),y_ = (y115 ++ l0):=⟨_,rfl⟩
  replace H : (some y118) = some r:=by first | (rw [hy118];with_reducible exact H) | (have H2_:=(Option.bind_some _ _).symm.trans H;rw [hy118];with_reducible exact H2_) | (have H2_:=(Option.bind_some _ _).symm.trans H;with_reducible exact H2_) | with_reducible exact H | (rw [hy118];exact H) | exact H
  have Ny118:=Aside0.mk hy118
  clear hy118
  obtain rfl:=Option.some.inj H
  have hnil_:=fun (w_ : World) (a_ : Option Addr) (n_ c_ : Nat) => Lib.run_eql_slice_nil (P:=Try.prog) w_ 27 55 a_ n_ c_ 0 0 Try.underlying27
  rcases A0 with _ | ad0_
  ·have l0nil : l0 = []:=by
    rcases l0 with _ | ⟨x_,l_⟩
    ·rfl
    ·obtain ⟨ad_,e_,_⟩ := HR0.out.2.2 (by simp)
     cases e_
   have rnil : y118 = []:=by rw [Ny118.out,Ny115.out,l0nil];rfl
   subst rnil
   subst l0nil
   go_enter Try.func58,Try.ntmps58
   go_wp2
   go_ret
   exact ⟨_,rfl,Kd.R_nil _ _ _ _ _,Below.refl _ _⟩
  ·go_enter Try.func58,Try.ntmps58
   go_wp2_with (first | ((with_reducible refine gate_dst (N:=5) rfl ?_);refine Kd.R_lit k55 _ 55 ?hg (N:=5) ?hd (xs:=([] : List (S55))) (inner := []) (ok:=fun _ => True) (okp:=fun _ => True) ?hr ?hp (fun _ hk => hk) trivial (Below.refl _ _) (Nat.le_refl _) (by simp) ?_;(case hd => rfl);(case hg => rfl);(case hr => first | (go_simp;done) | (go_simp;rfl));(case hp => exact (Reps.none _ _));intro v116 w3 ho4 hb hg_ hnew_;clear hg_ hnew_;(first | rw [← Ny115.out] at ho4 | (simp only [Int.reduceToNat] at ho4;rw [← Ny115.out] at ho4));have n0_:=Aside0.mk (Kd.R_lower ho4 (below_size (by repeat (first | (with_reducible first | exact HB.out | apply below_alloc | apply pw_below_drewN | apply below_drew1) | exact HB.out))));have n1_:=Aside0.mk (below_step (by repeat (first | (with_reducible first | exact HB.out | apply below_alloc | apply pw_below_drewN | apply below_drew1) | exact HB.out)) hb);clear HB;have HO117:=n0_;have HB:=n1_;clear n0_ n1_;clear hb ho4) | ((with_reducible refine gate_builtin (b := .append) (xs:=#[.tmp 5, .tmp 6]) rfl ?_);at_builtin;refine Kd.R_append_rows k55 (w0:=w) w.heap.size rfl (.tmp 5) (.tmp 6) 27 55 (.agg #[(.int .i64 0),(.string ⟨#[]⟩),(.bool false),(.int .i64 0)]) 40 rfl Try.underlying27 info55 rfl (by decide) (by omega) v116 y115 l0 _ _ _ (fun _ => True) (fun _ => False) rfl rfl ?aO ?aR (fun _ _ h => h) (fun _ h => h.elim) ?aF ?aB ?aS ?aL ?_;(case aR => repeat (first | exact (Kd.C_below HR0.out HB.out) | (with_reducible refine Kd.C_alloc ?_ _) | (with_reducible refine Kd.C_drewN ?_ _) | (with_reducible refine Kd.C_drew ?_)));(case aB => exact (by repeat (first | (with_reducible first | exact HB.out | apply below_alloc | apply pw_below_drewN | apply below_drew1) | exact HB.out)));(case aF => exact (fun _ _ => trivial));(case aO => exact (by (with_reducible repeat (first | apply Kd.R_alloc | apply Kd.R_drewN | apply Kd.R_drew));exact HO117.out));(case aS => exact (below_size (by repeat (first | (with_reducible first | exact HB.out | apply below_alloc | apply pw_below_drewN | apply below_drew1) | exact HB.out))));(case aL => have:=LMc2.out;omega);intro v119 w5 ho hb hg hat;rw [← Ny118.out] at ho;have n0_:=Aside0.mk (hb);have n1_:=Aside0.mk (ho);clear HB;clear HO117;have HB:=n0_;have HO120:=n1_;clear n0_ n1_;clear ho hb hg hat))
   go_ret
   exact ⟨_,by first | rfl | (simp [errW_none,errW_some] <;> rfl) | (simp [*,errW_none,errW_some] <;> rfl),by (with_reducible repeat (first | apply Kd.R_alloc | apply Kd.R_drewN | apply Kd.R_drew));exact HO120.out,by repeat (first | (with_reducible first | exact HB.out | apply below_alloc | apply pw_below_drewN | apply below_drew1) | exact HB.out)⟩
 ·rw [if_neg c2] at H
  exact absurd H (by simp)

/-! ### impl_AddEntry: function 41 -/
def impl_AddEntry.f (k : Nat) (l0 : List (S55)) (a1_0 : Int) (a1_1 : ByteArray) (a1_2 : Bool) (a1_3 : Int) : Option ((List (S55)) × Bool):=(slices_Clone_impl_Entry.f l0).bind fun t122 => ((some (([(⟨a1_0,a1_1,a1_2,a1_3⟩ : S55)] : List (S55)) : List (S55))).bind fun y125 => (if t122.length + y125.length < 3518437208883 then ((some (t122 ++ y125 : List (S55))).bind fun y128 => ((impl_IsValidFile.f k y128).bind fun t131 => (if t131 = true then (some (y128,true)) else (some (([] : List (S55)),false))))) else (none)))
theorem impl_AddEntry.mono : ∀ a0 a1 a2 a3 a4 k,LeO (impl_AddEntry.f k a0 a1 a2 a3 a4) (impl_AddEntry.f (k + 1) a0 a1 a2 a3 a4):=by
 intro a0 a1 a2 a3 a4 k
 unfold impl_AddEntry.f
 repeat' first
   | (with_reducible exact impl_IsValidFile.mono _ _)
   | (with_reducible exact LeO.refl _)
   | (with_reducible exact LeO.none _)
   | (with_reducible refine LeO.ite ?_ ?_)
   | (with_reducible refine LeO.bind ?_ (fun _ => ?_))
   | exact impl_IsValidFile.mono _ _
   | exact LeO.none _
   | refine LeO.ite ?_ ?_
   | refine LeO.bind ?_ (fun _ => ?_)
set_option maxHeartbeats 8000000 in
set_option maxRecDepth 100000 in
theorem impl_AddEntry.calls (k : Nat) (A0 : Option Addr) (c0 : Nat) (l0 : List (S55)) (a1_0 : Int) (a1_1 : ByteArray) (a1_2 : Bool) (a1_3 : Int) (r1 : List (S55)) (r2 : Bool) (w : World) (hr0 : Kd.C k55 w A0 l0.length l0) (hc0 : l0.length ≤ c0) (h : impl_AddEntry.f k l0 a1_0 a1_1 a1_2 a1_3 = some (r1,r2)) :
  Calls Try.prog 41 #[.slice A0 l0.length c0, .agg #[.int .i64 a1_0, .string a1_1, .bool a1_2, .int .i64 a1_3]] w fun e w' => ∃ v0_ : Value,e = .returned (.tuple #[v0_, .bool r2]) ∧ Kd.R k55 55 w' w.heap.size (fun _ => True) v0_ r1 ∧ Below w.heap.size w w':=by
 have hu55:=Try.underlying55
 have HR0:=Aside0.mk hr0
 have HC0:=Aside0.mk hc0
 clear hr0 hc0
 have HB:=Aside0.mk (Below.refl w.heap.size w)
 have H : ((slices_Clone_impl_Entry.f l0).bind fun t122 => ((some (([(⟨a1_0,a1_1,a1_2,a1_3⟩ : S55)] : List (S55)) : List (S55))).bind fun y125 => (if t122.length + y125.length < 3518437208883 then ((some (t122 ++ y125 : List (S55))).bind fun y128 => ((impl_IsValidFile.f k y128).bind fun t131 => (if t131 = true then (some (y128,true)) else (some (([] : List (S55)),false))))) else (none)))) = some (r1,r2):=h
 clear h
 replace H:=Option.bind_eq_some_iff.mp H
 obtain ⟨t122,A30,H⟩ := H
 replace H : ((some (([(⟨a1_0,a1_1,a1_2,a1_3⟩ : S55)] : List (S55)) : List (S55))).bind fun y125 => (if t122.length + y125.length < 3518437208883 then ((some (t122 ++ y125 : List (S55))).bind fun y128 => ((impl_IsValidFile.f k y128).bind fun t131 => (if t131 = true then (some (y128,true)) else (some (([] : List (S55)),false))))) else (none))) = some (r1,r2):=H
 have A3:=Aside0.mk A30
 clear A30
 obtain ⟨y125,hy125⟩ : ∃ y_ : List (S55),y_ = (([(⟨a1_0,a1_1,a1_2,a1_3⟩ : S55)] : List (S55))):=⟨_,rfl⟩
 replace H : (if t122.length + y125.length < 3518437208883 then ((some (t122 ++ y125 : List (S55))).bind fun y128 => ((impl_IsValidFile.f k y128).bind fun t131 => (if t131 = true then (some (y128,true)) else (some (([] : List (S55)),false))))) else (none)) = some (r1,r2):=by first | (rw [hy125];with_reducible exact H) | (have H2_:=(Option.bind_some _ _).symm.trans H;rw [hy125];with_reducible exact H2_) | (have H2_:=(Option.bind_some _ _).symm.trans H;with_reducible exact H2_) | with_reducible exact H | (rw [hy125];exact H) | exact H
 have Ny125:=Aside0.mk hy125
 clear hy125
 by_cases c4 : t122.length + y125.length < 3518437208883
 ·rw [if_pos c4] at H
  have LMc4:=Aside0.mk c4
  clear c4
  obtain ⟨y128,hy128⟩ : ∃ y_ : List (S55),y_ = (t122 ++ y125):=⟨_,rfl⟩
  replace H : ((impl_IsValidFile.f k y128).bind fun t131 => (if t131 = true then (some (y128,true)) else (some (([] : List (S55)),false)))) = some (r1,r2):=by first | (rw [hy128];with_reducible exact H) | (have H2_:=(Option.bind_some _ _).symm.trans H;rw [hy128];with_reducible exact H2_) | (have H2_:=(Option.bind_some _ _).symm.trans H;with_reducible exact H2_) | with_reducible exact H | (rw [hy128];exact H) | exact H
  have Ny128:=Aside0.mk hy128
  clear hy128
  replace H:=Option.bind_eq_some_iff.mp H
  obtain ⟨t131,A50,H⟩ := H
  replace H : (if t131 = true then (some (y128,true)) else (some (([] : List (S55)),false))) = some (r1,r2):=H
  have A5:=Aside0.mk A50
  clear A50
  by_cases c6 : t131 = true
  ·subst c6
   have H1 : (some (y128,true)) = some (r1,r2):=by rw [if_pos rfl] at H;exact H
   clear H
   have H:=H1
   clear H1
   simp only [Option.some.injEq,Prod.mk.injEq] at H
   obtain ⟨rfl,rfl⟩ := H
   go_enter Try.func41,Try.ntmps41
   try go_wp2_with (first | ((with_reducible refine gate_dst (N:=3) rfl ?_);refine box_event ?hg (N:=3) ?hd (cs:=#[.int .i64 a1_0, .string a1_1, .bool a1_2, .int .i64 a1_3]) (t:=55) ?hr ?_;(case hd => rfl);(case hg => rfl);(case hr => first | (go_simp;done) | (go_simp;rfl));intro gb121 hg w7 hbox hb;have n0_:=Aside0.mk (below_step (by repeat (first | (with_reducible first | exact HB.out | apply below_alloc | apply pw_below_drewN | apply below_drew1) | exact HB.out)) hb);have n1_:=Aside0.mk (hbox);have n2_:=Aside0.mk ((by rw [hg];exact (below_size (by repeat (first | (with_reducible first | exact HB.out | apply below_alloc | apply pw_below_drewN | apply below_drew1) | exact HB.out))) : w.heap.size ≤ gb121));have n3_:=Aside0.mk ((by rw [hg];exact (below_size (by repeat (first | (with_reducible first | exact HB.out | apply below_alloc | apply pw_below_drewN | apply below_drew1) | exact HB.out))) : w.heap.size ≤ gb121));clear HB;have HB:=n0_;have BK121:=n1_;have GW121:=n2_;have GE121:=n3_;clear n0_ n1_ n2_ n3_;clear hb hbox hg))
   have n0_:=Aside0.mk (blk_drew BK121.out)
   have n1_:=Aside0.mk (below_drew1 HB.out)
   clear BK121
   clear HB
   have BK121:=n0_
   have HB:=n1_
   clear n0_ n1_
   refine start_ (n:=6) (S:=fun w' => w'.cell? ⟨gb121,0,none⟩ = some (.int .i64 a1_0) ∧ w'.cell? ⟨gb121,1,none⟩ = some (.string a1_1) ∧ w'.cell? ⟨gb121,2,none⟩ = some (.bool a1_2) ∧ w'.cell? ⟨gb121,3,none⟩ = some (.int .i64 a1_3)) (ds := []) #[false,false,false,false,false,false] (by kernel_rfl) rfl rfl ⟨(blk_cell BK121.out 0).trans rfl,(blk_cell BK121.out 1).trans rfl,(blk_cell BK121.out 2).trans rfl,(blk_cell BK121.out 3).trans rfl⟩ (fun hHeld => ?_)
   generalize w7.drew = w8 at BK121 HB hHeld ⊢
   refine pure_ (i:=0) (N:=some 7) (v:=?_) (a':=?_) #[true,false,false,false,false,false] rfl rfl (by kernel_rfl) (fun _ _ _ h => h) (Or.inl ⟨by rfl, ?_⟩) ?_ ?_
   rotate_left
   ·intro w'
    go_simp
    with_reducible rfl
   rotate_left
   ·simp only [Act.put,sA_,s0_,s1_,i64_w,i32_w]
    rfl
   refine take_ (i:=2) (N:=some 9) (v:=?_) (a':=?_) #[true,false,true,false,false,false] rfl rfl (by kernel_rfl) (fun _ _ _ h => h) (Or.inl ⟨by rfl, ?_⟩) hHeld ?_ ?_
   rotate_left
   ·rintro w' ⟨s0,s1,s2,s3⟩
    go_simp
    with_reducible rfl
   rotate_left
   ·simp only [Act.put,sA_,s0_,s1_,i64_w,i32_w]
    rfl
   refine join_ (σ:=Value × Value) 2 #[true,true,true,true,false,false] (fun s_ => [(8,s_.1),(10,s_.2)]) (fun s_ w' => (w'.cell? ⟨gb121,0,none⟩ = some (.int .i64 a1_0) ∧ w'.cell? ⟨gb121,1,none⟩ = some (.string a1_1) ∧ w'.cell? ⟨gb121,2,none⟩ = some (.bool a1_2) ∧ w'.cell? ⟨gb121,3,none⟩ = some (.int .i64 a1_3)) ∧ (Kd.R k55 55 w' w.heap.size (fun k_ => some k_ ≠ (s_.2 : Value).ownBlock ∧ k_ ≠ gb121) s_.1 t122) ∧ (Kd.R k55 55 w' w.heap.size (fun k_ => some k_ ≠ (s_.1 : Value).ownBlock ∧ k_ ≠ gb121) s_.2 y125) ∧ (w'.heap[gb121]? = some (.cells #[.int .i64 a1_0, .string a1_1, .bool a1_2, .int .i64 a1_3] 55 (0,0))) ∧ (Below w.heap.size w w')) ?_ ?_
   rotate_left
   ·intro hCont
    refine two_ (i:=1) (j:=3) (Ni:=some 8) (Nj:=some 10) #[true,true,true,false,false,false] #[true,false,true,true,false,false] rfl rfl rfl rfl (by kernel_rfl) (by decide) (by decide) (fun K hK => ?_) (fun K hK => ?_)
    ·skip
     refine goes_ Try.func58 (by kernel_rfl) rfl #[.slice A0 l0.length c0] (by rfl) rfl rfl (by (try simp only [List.map_toArray,List.map_cons,List.map_nil]);first | done | rfl | (simp only [List.length_drop,List.length_take];rfl)) ?_
     with_reducible refine (slices_Clone_impl_Entry.calls _ _ l0 t122 _ ?side1 ?side2 A3.out).mono ?_
     (case side1 => repeat (first | exact (Kd.C_below HR0.out HB.out) | (with_reducible refine Kd.C_alloc ?_ _) | (with_reducible refine Kd.C_drewN ?_ _) | (with_reducible refine Kd.C_drew ?_)))
     (case side2 => exact HC0.out)
     rintro e w9 ⟨v123,rfl,ho0,hb⟩
     refine ⟨_,rfl, ?_⟩
     have n0_:=Aside0.mk (Kd.R_lower (Kd.R_newB ho0 (g:=gb121) (o := .cells #[.int .i64 a1_0, .string a1_1, .bool a1_2, .int .i64 a1_3] 55 (0,0)) (by (with_reducible repeat (first | refine blk_drewN ?_ _ | refine blk_drew ?_ | refine blk_alloc ?_ _));exact BK121.out)) (below_size (by repeat (first | (with_reducible first | exact HB.out | apply below_alloc | apply pw_below_drewN | apply below_drew1 | refine below_set ?_ GE121.out) | exact HB.out))))
     have n1_:=Aside0.mk (blk_below (g:=gb121) (o := .cells #[.int .i64 a1_0, .string a1_1, .bool a1_2, .int .i64 a1_3] 55 (0,0)) (by (with_reducible repeat (first | refine blk_drewN ?_ _ | refine blk_drew ?_ | refine blk_alloc ?_ _));exact BK121.out) hb)
     have n2_:=Aside0.mk (below_step (by repeat (first | (with_reducible first | exact HB.out | apply below_alloc | apply pw_below_drewN | apply below_drew1 | refine below_set ?_ GE121.out) | exact HB.out)) hb)
     clear BK121
     clear HB
     have HO124:=n0_
     have BK121:=n1_
     have HB:=n2_
     clear n0_ n1_ n2_
     (try clear hb)
     (try clear hb2)
     (try clear hk)
     (try clear hi)
     (try clear ho0)
     refine hK.out _ _ ⟨(blk_cell BK121.out 0).trans rfl,(blk_cell BK121.out 1).trans rfl,(blk_cell BK121.out 2).trans rfl,(blk_cell BK121.out 3).trans rfl⟩ (fun hHeld => ?_)
     clear hK K
     refine norm_ (a':=?_) ?_ ?_
     rotate_left
     ·show Act.put _ (some 8) _ = _
      simp only [Act.put,sA_,s0_,s1_,i64_w,i32_w]
      rfl
     refine one_ (i:=3) (N:=some 10) #[true,true,true,true,false,false] rfl rfl (by kernel_rfl) (by decide) (fun K hK => ?_)
     refine Kd.R_lit_step k55 _ 55 ?hg (N:=10) ?hd (xs:=([(⟨a1_0,a1_1,a1_2,a1_3⟩ : S55)] : List (S55))) (inner := [.int .i64 a1_0, .string a1_1, .bool a1_2, .int .i64 a1_3]) (ok:=fun _ => True) (okp:=fun _ => True) ?hr ?hp (fun _ hk => hk) trivial (Below.refl _ _) (Nat.le_refl _) (by simp) ?_;(case hd => rfl);(case hg => rfl);(case hr => first | (go_simp;done) | (go_simp;rfl));(case hp => exact (Reps.c4 (show Kd.M k55 _ _ _ (⟨a1_0,a1_1,a1_2,a1_3⟩ : S55) [.int .i64 a1_0, .string a1_1, .bool a1_2, .int .i64 a1_3] from (k55_mkM _ _ _ (⟨a1_0,a1_1,a1_2,a1_3⟩ : S55) )) (Reps.none _ _)))
     intro v126 w10 ho11 hb hg_ hnew_
     clear hg_ hnew_
     (first | rw [← Ny125.out] at ho11 | (simp only [Int.reduceToNat] at ho11;rw [← Ny125.out] at ho11))
     have n0_:=Aside0.mk (Kd.R_elder' (by (with_reducible repeat (first | apply Kd.R_alloc | apply Kd.R_drewN | apply Kd.R_drew));exact HO124.out) (Kd.R_base ho11) hb)
     have n1_:=Aside0.mk (Kd.R_lower (Kd.R_newB (Kd.R_new' ho11 (Kd.R_lt (by (with_reducible repeat (first | apply Kd.R_alloc | apply Kd.R_drewN | apply Kd.R_drew));exact HO124.out))) (g:=gb121) (o := .cells #[.int .i64 a1_0, .string a1_1, .bool a1_2, .int .i64 a1_3] 55 (0,0)) (by (with_reducible repeat (first | refine blk_drewN ?_ _ | refine blk_drew ?_ | refine blk_alloc ?_ _));exact BK121.out)) (below_size (by repeat (first | (with_reducible first | exact HB.out | apply below_alloc | apply pw_below_drewN | apply below_drew1 | refine below_set ?_ GE121.out) | exact HB.out))))
     have n2_:=Aside0.mk (blk_below (g:=gb121) (o := .cells #[.int .i64 a1_0, .string a1_1, .bool a1_2, .int .i64 a1_3] 55 (0,0)) (by (with_reducible repeat (first | refine blk_drewN ?_ _ | refine blk_drew ?_ | refine blk_alloc ?_ _));exact BK121.out) hb)
     have n3_:=Aside0.mk (below_step (by repeat (first | (with_reducible first | exact HB.out | apply below_alloc | apply pw_below_drewN | apply below_drew1 | refine below_set ?_ GE121.out) | exact HB.out)) hb)
     clear HO124
     clear BK121
     clear HB
     have HO124:=n0_
     have HO127:=n1_
     have BK121:=n2_
     have HB:=n3_
     clear n0_ n1_ n2_ n3_
     clear hb ho11
     refine hK.out _ _ ⟨(blk_cell BK121.out 0).trans rfl,(blk_cell BK121.out 1).trans rfl,(blk_cell BK121.out 2).trans rfl,(blk_cell BK121.out 3).trans rfl⟩ (fun hHeld => ?_)
     clear hK K
     refine norm_ (a':=?_) ?_ ?_
     rotate_left
     ·show Act.put _ (some 10) _ = _
      simp only [Act.put,sA_,s0_,s1_,i64_w,i32_w]
      rfl
     exact norm_ (by simp only [putAll,Act.put,sA_,s0_,s1_]) (hCont (v123,v126) _ ⟨hHeld,(by (with_reducible repeat (first | apply Kd.R_alloc | apply Kd.R_drewN | apply Kd.R_drew));exact Kd.R_mono HO124.out (fun _ hk => ⟨hk.2,hk.1.2⟩)),(by (with_reducible repeat (first | apply Kd.R_alloc | apply Kd.R_drewN | apply Kd.R_drew));exact Kd.R_mono HO127.out (fun _ hk => ⟨hk.1.2,hk.2⟩)),(by (with_reducible repeat (first | refine blk_drewN ?_ _ | refine blk_drew ?_ | refine blk_alloc ?_ _));exact BK121.out),(by repeat (first | (with_reducible first | exact HB.out | apply below_alloc | apply pw_below_drewN | apply below_drew1 | refine below_set ?_ GE121.out) | exact HB.out))⟩)
    ·skip
     refine Kd.R_lit_step k55 _ 55 ?hg (N:=10) ?hd (xs:=([(⟨a1_0,a1_1,a1_2,a1_3⟩ : S55)] : List (S55))) (inner := [.int .i64 a1_0, .string a1_1, .bool a1_2, .int .i64 a1_3]) (ok:=fun _ => True) (okp:=fun _ => True) ?hr ?hp (fun _ hk => hk) trivial (Below.refl _ _) (Nat.le_refl _) (by simp) ?_;(case hd => rfl);(case hg => rfl);(case hr => first | (go_simp;done) | (go_simp;rfl));(case hp => exact (Reps.c4 (show Kd.M k55 _ _ _ (⟨a1_0,a1_1,a1_2,a1_3⟩ : S55) [.int .i64 a1_0, .string a1_1, .bool a1_2, .int .i64 a1_3] from (k55_mkM _ _ _ (⟨a1_0,a1_1,a1_2,a1_3⟩ : S55) )) (Reps.none _ _)))
     intro v126 w9 ho10 hb hg_ hnew_
     clear hg_ hnew_
     (first | rw [← Ny125.out] at ho10 | (simp only [Int.reduceToNat] at ho10;rw [← Ny125.out] at ho10))
     have n0_:=Aside0.mk (Kd.R_lower (Kd.R_newB ho10 (g:=gb121) (o := .cells #[.int .i64 a1_0, .string a1_1, .bool a1_2, .int .i64 a1_3] 55 (0,0)) (by (with_reducible repeat (first | refine blk_drewN ?_ _ | refine blk_drew ?_ | refine blk_alloc ?_ _));exact BK121.out)) (below_size (by repeat (first | (with_reducible first | exact HB.out | apply below_alloc | apply pw_below_drewN | apply below_drew1 | refine below_set ?_ GE121.out) | exact HB.out))))
     have n1_:=Aside0.mk (blk_below (g:=gb121) (o := .cells #[.int .i64 a1_0, .string a1_1, .bool a1_2, .int .i64 a1_3] 55 (0,0)) (by (with_reducible repeat (first | refine blk_drewN ?_ _ | refine blk_drew ?_ | refine blk_alloc ?_ _));exact BK121.out) hb)
     have n2_:=Aside0.mk (below_step (by repeat (first | (with_reducible first | exact HB.out | apply below_alloc | apply pw_below_drewN | apply below_drew1 | refine below_set ?_ GE121.out) | exact HB.out)) hb)
     clear BK121
     clear HB
     have HO127:=n0_
     have BK121:=n1_
     have HB:=n2_
     clear n0_ n1_ n2_
     clear hb ho10
     refine hK.out _ _ ⟨(blk_cell BK121.out 0).trans rfl,(blk_cell BK121.out 1).trans rfl,(blk_cell BK121.out 2).trans rfl,(blk_cell BK121.out 3).trans rfl⟩ (fun hHeld => ?_)
     clear hK K
     refine norm_ (a':=?_) ?_ ?_
     rotate_left
     ·show Act.put _ (some 10) _ = _
      simp only [Act.put,sA_,s0_,s1_,i64_w,i32_w]
      rfl
     refine one_ (i:=1) (N:=some 8) #[true,true,true,true,false,false] rfl rfl (by kernel_rfl) (by decide) (fun K hK => ?_)
     refine goes_ Try.func58 (by kernel_rfl) rfl #[.slice A0 l0.length c0] (by rfl) rfl rfl (by (try simp only [List.map_toArray,List.map_cons,List.map_nil]);first | done | rfl | (simp only [List.length_drop,List.length_take];rfl)) ?_
     with_reducible refine (slices_Clone_impl_Entry.calls _ _ l0 t122 _ ?side1 ?side2 A3.out).mono ?_
     (case side1 => repeat (first | exact (Kd.C_below HR0.out HB.out) | (with_reducible refine Kd.C_alloc ?_ _) | (with_reducible refine Kd.C_drewN ?_ _) | (with_reducible refine Kd.C_drew ?_)))
     (case side2 => exact HC0.out)
     rintro e w11 ⟨v123,rfl,ho0,hb⟩
     refine ⟨_,rfl, ?_⟩
     have n0_:=Aside0.mk (Kd.R_elder' (by (with_reducible repeat (first | apply Kd.R_alloc | apply Kd.R_drewN | apply Kd.R_drew));exact HO127.out) (Kd.R_base ho0) hb)
     have n1_:=Aside0.mk (Kd.R_lower (Kd.R_newB (Kd.R_new' ho0 (Kd.R_lt (by (with_reducible repeat (first | apply Kd.R_alloc | apply Kd.R_drewN | apply Kd.R_drew));exact HO127.out))) (g:=gb121) (o := .cells #[.int .i64 a1_0, .string a1_1, .bool a1_2, .int .i64 a1_3] 55 (0,0)) (by (with_reducible repeat (first | refine blk_drewN ?_ _ | refine blk_drew ?_ | refine blk_alloc ?_ _));exact BK121.out)) (below_size (by repeat (first | (with_reducible first | exact HB.out | apply below_alloc | apply pw_below_drewN | apply below_drew1 | refine below_set ?_ GE121.out) | exact HB.out))))
     have n2_:=Aside0.mk (blk_below (g:=gb121) (o := .cells #[.int .i64 a1_0, .string a1_1, .bool a1_2, .int .i64 a1_3] 55 (0,0)) (by (with_reducible repeat (first | refine blk_drewN ?_ _ | refine blk_drew ?_ | refine blk_alloc ?_ _));exact BK121.out) hb)
     have n3_:=Aside0.mk (below_step (by repeat (first | (with_reducible first | exact HB.out | apply below_alloc | apply pw_below_drewN | apply below_drew1 | refine below_set ?_ GE121.out) | exact HB.out)) hb)
     clear HO127
     clear BK121
     clear HB
     have HO127:=n0_
     have HO124:=n1_
     have BK121:=n2_
     have HB:=n3_
     clear n0_ n1_ n2_ n3_
     (try clear hb)
     (try clear hb2)
     (try clear hk)
     (try clear hi)
     (try clear ho0)
     refine hK.out _ _ ⟨(blk_cell BK121.out 0).trans rfl,(blk_cell BK121.out 1).trans rfl,(blk_cell BK121.out 2).trans rfl,(blk_cell BK121.out 3).trans rfl⟩ (fun hHeld => ?_)
     clear hK K
     refine norm_ (a':=?_) ?_ ?_
     rotate_left
     ·show Act.put _ (some 8) _ = _
      simp only [Act.put,sA_,s0_,s1_,i64_w,i32_w]
      rfl
     exact norm_ (by simp only [putAll,Act.put,sA_,s0_,s1_]) (hCont (v123,v126) _ ⟨hHeld,(by (with_reducible repeat (first | apply Kd.R_alloc | apply Kd.R_drewN | apply Kd.R_drew));exact Kd.R_mono HO124.out (fun _ hk => ⟨hk.1.2,hk.2⟩)),(by (with_reducible repeat (first | apply Kd.R_alloc | apply Kd.R_drewN | apply Kd.R_drew));exact Kd.R_mono HO127.out (fun _ hk => ⟨hk.2,hk.1.2⟩)),(by (with_reducible repeat (first | refine blk_drewN ?_ _ | refine blk_drew ?_ | refine blk_alloc ?_ _));exact BK121.out),(by repeat (first | (with_reducible first | exact HB.out | apply below_alloc | apply pw_below_drewN | apply below_drew1 | refine below_set ?_ GE121.out) | exact HB.out))⟩)
   rintro ⟨v123,v126⟩ w12 ⟨hS_,h0_,h1_,h2_,h3_⟩
   have n0_ : Aside0 (Kd.R k55 55 w12 w.heap.size (fun k_ => some k_ ≠ (v126 : Value).ownBlock ∧ k_ ≠ gb121) v123 t122):=⟨h0_⟩
   have n1_ : Aside0 (Kd.R k55 55 w12 w.heap.size (fun k_ => some k_ ≠ (v123 : Value).ownBlock ∧ k_ ≠ gb121) v126 y125):=⟨h1_⟩
   have n2_ : Aside0 (w12.heap[gb121]? = some (.cells #[.int .i64 a1_0, .string a1_1, .bool a1_2, .int .i64 a1_3] 55 (0,0))):=⟨h2_⟩
   have n3_ : Aside0 (Below w.heap.size w w12):=⟨h3_⟩
   clear BK121
   clear HB
   clear h0_ h1_ h2_ h3_
   have HO124:=n0_
   have HO127:=n1_
   have BK121:=n2_
   have HB:=n3_
   clear n0_ n1_ n2_ n3_
   have hHeld : w12.cell? ⟨gb121,0,none⟩ = some (.int .i64 a1_0) ∧ w12.cell? ⟨gb121,1,none⟩ = some (.string a1_1) ∧ w12.cell? ⟨gb121,2,none⟩ = some (.bool a1_2) ∧ w12.cell? ⟨gb121,3,none⟩ = some (.int .i64 a1_3):=hS_
   obtain ⟨Ao14,co14,eo14⟩ := Kd.R_slice HO127.out
   (first | subst eo14 | (injection eo14 with f1_ f2_ f3_;have f4_:=f1_.symm;have f5_:=f3_.symm;clear f1_ f2_ f3_;subst f4_;subst f5_))
   refine norm_ (a':=?_) ?_ ?_
   rotate_left
   ·simp only [putAll,Act.put,sA_,s0_,s1_]
    rfl
   refine one_ (i:=4) (N:=some 11) #[true,true,true,true,true,false] rfl rfl (by kernel_rfl) (by decide) (fun K hK => ?_)
   refine Kd.R_append_rows_step k55 (w0:=w) w.heap.size (by rfl) (.tmp 8) (.tmp 10) 27 55 (.agg #[(.int .i64 0),(.string ⟨#[]⟩),(.bool false),(.int .i64 0)]) 40 rfl Try.underlying27 info55 rfl (by decide) (by omega) v123 t122 y125 _ _ _ (fun k_ => some k_ ≠ (.slice Ao14 y125.length co14 : Value).ownBlock ∧ k_ ≠ gb121) (fun _ => False) rfl rfl ?aO ?aR (fun _ _ h => h) (fun _ h => h.elim) ?aF ?aB ?aS ?aL ?_
   (case aR => repeat (first | exact (Kd.R_reads' HO127.out).2.2 | (with_reducible refine Kd.C_alloc ?_ _) | (with_reducible refine Kd.C_drewN ?_ _) | (with_reducible refine Kd.C_drew ?_)))
   (case aB => exact (by repeat (first | (with_reducible first | exact HB.out | apply below_alloc | apply pw_below_drewN | apply below_drew1 | refine below_set ?_ GE121.out) | exact HB.out)))
   (case aF => exact (fun k_ hk => ⟨Kd.fresh' (Kd.R_lt (by (with_reducible repeat (first | apply Kd.R_alloc | apply Kd.R_drewN | apply Kd.R_drew));exact HO127.out)) k_ hk,Kd.freshB (g:=gb121) (o := .cells #[.int .i64 a1_0, .string a1_1, .bool a1_2, .int .i64 a1_3] 55 (0,0)) (by (with_reducible repeat (first | refine blk_drewN ?_ _ | refine blk_drew ?_ | refine blk_alloc ?_ _));exact BK121.out) k_ hk⟩))
   (case aO => exact (by (with_reducible repeat (first | apply Kd.R_alloc | apply Kd.R_drewN | apply Kd.R_drew));exact HO124.out))
   (case aS => exact (below_size (by repeat (first | (with_reducible first | exact HB.out | apply below_alloc | apply pw_below_drewN | apply below_drew1 | refine below_set ?_ GE121.out) | exact HB.out))))
   (case aL => have:=LMc4.out;omega)
   intro v129 w13 ho hb hg hat
   rw [← Ny128.out] at ho
   have n0_:=Aside0.mk (blk_grown (g:=gb121) (o := .cells #[.int .i64 a1_0, .string a1_1, .bool a1_2, .int .i64 a1_3] 55 (0,0)) (by (with_reducible repeat (first | refine blk_drewN ?_ _ | refine blk_drew ?_ | refine blk_alloc ?_ _));exact BK121.out) hg (Kd.R_away HO124.out (fun _ hk => hk.2)))
   have n1_:=Aside0.mk (Kd.R_after (ok:=(fun k_ => k_ ≠ gb121)) (by (with_reducible repeat (first | apply Kd.R_alloc | apply Kd.R_drewN | apply Kd.R_drew));exact Kd.R_mono HO127.out (fun _ hk => ⟨hk.2,hk.1⟩)) hg hat)
   have n2_:=Aside0.mk (hb)
   have n3_:=Aside0.mk (ho)
   clear BK121
   clear HO127
   clear HB
   clear HO124
   have BK121:=n0_
   have HO127:=n1_
   have HB:=n2_
   have HO130:=n3_
   clear n0_ n1_ n2_ n3_
   clear ho hb hg hat
   refine hK.out _ _ ⟨(blk_cell BK121.out 0).trans rfl,(blk_cell BK121.out 1).trans rfl,(blk_cell BK121.out 2).trans rfl,(blk_cell BK121.out 3).trans rfl⟩ (fun hHeld => ?_)
   clear hK K
   refine norm_ (a':=?_) ?_ ?_
   rotate_left
   ·show Act.put _ (some 11) _ = _
    simp only [Act.put,sA_,s0_,s1_,i64_w,i32_w]
    rfl
   refine pure_ (i:=5) (N:=some 6) (v:=?_) (a':=?_) #[true,true,true,true,true,true] rfl rfl (by kernel_rfl) (fun _ _ _ h => h) (Or.inl ⟨by rfl, ?_⟩) ?_ ?_
   rotate_left
   ·intro w'
    go_simp
    with_reducible rfl
   rotate_left
   ·simp only [Act.put,sA_,s0_,s1_,i64_w,i32_w]
    rfl
   refine done_ (by kernel_rfl) ?_
   obtain ⟨Ao15,co15,eo15⟩ := Kd.R_slice HO130.out
   subst eo15
   try go_wp2_with (first | ((with_reducible refine gate_callee (f:=22) rfl ?_);refine goesL_ (some 13) rfl rfl Try.func22 (by kernel_rfl) rfl #[.slice Ao15 y128.length co15] rfl (by (try simp only [List.map_toArray,List.map_cons,List.map_nil]);first | done | rfl | (simp only [List.length_drop,List.length_take];rfl)) ?_;(with_reducible refine (impl_IsValidFile.calls k _ _ y128 true _ ?side1 ?side2 A5.out).mono ?_);(case side1 => repeat (first | exact (Kd.R_reads' HO130.out).2.2 | (with_reducible refine Kd.C_alloc ?_ _) | (with_reducible refine Kd.C_drewN ?_ _) | (with_reducible refine Kd.C_drew ?_)));(case side2 => exact (Kd.R_reads' HO130.out).2.1);rintro e w16 ⟨rfl,hb⟩;refine ⟨_,rfl, ?_⟩;have n0_:=Aside0.mk (Kd.R_below (by (with_reducible repeat (first | apply Kd.R_alloc | apply Kd.R_drewN | apply Kd.R_drew));exact HO127.out) hb);have n1_:=Aside0.mk (Kd.R_below (by (with_reducible repeat (first | apply Kd.R_alloc | apply Kd.R_drewN | apply Kd.R_drew));exact HO130.out) hb);have n2_:=Aside0.mk (blk_below (g:=gb121) (o := .cells #[.int .i64 a1_0, .string a1_1, .bool a1_2, .int .i64 a1_3] 55 (0,0)) (by (with_reducible repeat (first | refine blk_drewN ?_ _ | refine blk_drew ?_ | refine blk_alloc ?_ _));exact BK121.out) hb);have n3_:=Aside0.mk (below_step (by repeat (first | (with_reducible first | exact HB.out | apply below_alloc | apply pw_below_drewN | apply below_drew1 | refine below_set ?_ GE121.out) | exact HB.out)) hb);clear HO127;clear HO130;clear BK121;clear HB;have HO127:=n0_;have HO130:=n1_;have BK121:=n2_;have HB:=n3_;clear n0_ n1_ n2_ n3_;(try clear hb);(try clear hb2);(try clear hk);(try clear hi)))
   go_ret2
   exact ⟨_,by first | rfl | (simp [errW_none,errW_some] <;> rfl) | (simp [*,errW_none,errW_some] <;> rfl),by (with_reducible repeat (first | apply Kd.R_alloc | apply Kd.R_drewN | apply Kd.R_drew));exact Kd.R_mono HO130.out (fun _ hk => trivial),by repeat (first | (with_reducible first | exact HB.out | apply below_alloc | apply pw_below_drewN | apply below_drew1 | refine below_set ?_ GE121.out) | exact HB.out)⟩
  ·replace c6:=Bool.eq_false_iff.mpr c6
   subst c6
   have H1 : (some (([] : List (S55)),false)) = some (r1,r2):=by rw [if_neg (show ¬ (false = true) by decide)] at H;exact H
   clear H
   have H:=H1
   clear H1
   simp only [Option.some.injEq,Prod.mk.injEq] at H
   obtain ⟨rfl,rfl⟩ := H
   go_enter Try.func41,Try.ntmps41
   try go_wp2_with (first | ((with_reducible refine gate_dst (N:=3) rfl ?_);refine box_event ?hg (N:=3) ?hd (cs:=#[.int .i64 a1_0, .string a1_1, .bool a1_2, .int .i64 a1_3]) (t:=55) ?hr ?_;(case hd => rfl);(case hg => rfl);(case hr => first | (go_simp;done) | (go_simp;rfl));intro gb121 hg w17 hbox hb;have n0_:=Aside0.mk (below_step (by repeat (first | (with_reducible first | exact HB.out | apply below_alloc | apply pw_below_drewN | apply below_drew1) | exact HB.out)) hb);have n1_:=Aside0.mk (hbox);have n2_:=Aside0.mk ((by rw [hg];exact (below_size (by repeat (first | (with_reducible first | exact HB.out | apply below_alloc | apply pw_below_drewN | apply below_drew1) | exact HB.out))) : w.heap.size ≤ gb121));have n3_:=Aside0.mk ((by rw [hg];exact (below_size (by repeat (first | (with_reducible first | exact HB.out | apply below_alloc | apply pw_below_drewN | apply below_drew1) | exact HB.out))) : w.heap.size ≤ gb121));clear HB;have HB:=n0_;have BK121:=n1_;have GW121:=n2_;have GE121:=n3_;clear n0_ n1_ n2_ n3_;clear hb hbox hg))
   have n0_:=Aside0.mk (blk_drew BK121.out)
   have n1_:=Aside0.mk (below_drew1 HB.out)
   clear BK121
   clear HB
   have BK121:=n0_
   have HB:=n1_
   clear n0_ n1_
   refine start_ (n:=6) (S:=fun w' => w'.cell? ⟨gb121,0,none⟩ = some (.int .i64 a1_0) ∧ w'.cell? ⟨gb121,1,none⟩ = some (.string a1_1) ∧ w'.cell? ⟨gb121,2,none⟩ = some (.bool a1_2) ∧ w'.cell? ⟨gb121,3,none⟩ = some (.int .i64 a1_3)) (ds := []) #[false,false,false,false,false,false] (by kernel_rfl) rfl rfl ⟨(blk_cell BK121.out 0).trans rfl,(blk_cell BK121.out 1).trans rfl,(blk_cell BK121.out 2).trans rfl,(blk_cell BK121.out 3).trans rfl⟩ (fun hHeld => ?_)
   generalize w17.drew = w18 at BK121 HB hHeld ⊢
   refine pure_ (i:=0) (N:=some 7) (v:=?_) (a':=?_) #[true,false,false,false,false,false] rfl rfl (by kernel_rfl) (fun _ _ _ h => h) (Or.inl ⟨by rfl, ?_⟩) ?_ ?_
   rotate_left
   ·intro w'
    go_simp
    with_reducible rfl
   rotate_left
   ·simp only [Act.put,sA_,s0_,s1_,i64_w,i32_w]
    rfl
   refine take_ (i:=2) (N:=some 9) (v:=?_) (a':=?_) #[true,false,true,false,false,false] rfl rfl (by kernel_rfl) (fun _ _ _ h => h) (Or.inl ⟨by rfl, ?_⟩) hHeld ?_ ?_
   rotate_left
   ·rintro w' ⟨s0,s1,s2,s3⟩
    go_simp
    with_reducible rfl
   rotate_left
   ·simp only [Act.put,sA_,s0_,s1_,i64_w,i32_w]
    rfl
   refine join_ (σ:=Value × Value) 2 #[true,true,true,true,false,false] (fun s_ => [(8,s_.1),(10,s_.2)]) (fun s_ w' => (w'.cell? ⟨gb121,0,none⟩ = some (.int .i64 a1_0) ∧ w'.cell? ⟨gb121,1,none⟩ = some (.string a1_1) ∧ w'.cell? ⟨gb121,2,none⟩ = some (.bool a1_2) ∧ w'.cell? ⟨gb121,3,none⟩ = some (.int .i64 a1_3)) ∧ (Kd.R k55 55 w' w.heap.size (fun k_ => some k_ ≠ (s_.2 : Value).ownBlock ∧ k_ ≠ gb121) s_.1 t122) ∧ (Kd.R k55 55 w' w.heap.size (fun k_ => some k_ ≠ (s_.1 : Value).ownBlock ∧ k_ ≠ gb121) s_.2 y125) ∧ (w'.heap[gb121]? = some (.cells #[.int .i64 a1_0, .string a1_1, .bool a1_2, .int .i64 a1_3] 55 (0,0))) ∧ (Below w.heap.size w w')) ?_ ?_
   rotate_left
   ·intro hCont
    refine two_ (i:=1) (j:=3) (Ni:=some 8) (Nj:=some 10) #[true,true,true,false,false,false] #[true,false,true,true,false,false] rfl rfl rfl rfl (by kernel_rfl) (by decide) (by decide) (fun K hK => ?_) (fun K hK => ?_)
    ·skip
     refine goes_ Try.func58 (by kernel_rfl) rfl #[.slice A0 l0.length c0] (by rfl) rfl rfl (by (try simp only [List.map_toArray,List.map_cons,List.map_nil]);first | done | rfl | (simp only [List.length_drop,List.length_take];rfl)) ?_
     with_reducible refine (slices_Clone_impl_Entry.calls _ _ l0 t122 _ ?side1 ?side2 A3.out).mono ?_
     (case side1 => repeat (first | exact (Kd.C_below HR0.out HB.out) | (with_reducible refine Kd.C_alloc ?_ _) | (with_reducible refine Kd.C_drewN ?_ _) | (with_reducible refine Kd.C_drew ?_)))
     (case side2 => exact HC0.out)
     rintro e w19 ⟨v123,rfl,ho0,hb⟩
     refine ⟨_,rfl, ?_⟩
     have n0_:=Aside0.mk (Kd.R_lower (Kd.R_newB ho0 (g:=gb121) (o := .cells #[.int .i64 a1_0, .string a1_1, .bool a1_2, .int .i64 a1_3] 55 (0,0)) (by (with_reducible repeat (first | refine blk_drewN ?_ _ | refine blk_drew ?_ | refine blk_alloc ?_ _));exact BK121.out)) (below_size (by repeat (first | (with_reducible first | exact HB.out | apply below_alloc | apply pw_below_drewN | apply below_drew1 | refine below_set ?_ GE121.out) | exact HB.out))))
     have n1_:=Aside0.mk (blk_below (g:=gb121) (o := .cells #[.int .i64 a1_0, .string a1_1, .bool a1_2, .int .i64 a1_3] 55 (0,0)) (by (with_reducible repeat (first | refine blk_drewN ?_ _ | refine blk_drew ?_ | refine blk_alloc ?_ _));exact BK121.out) hb)
     have n2_:=Aside0.mk (below_step (by repeat (first | (with_reducible first | exact HB.out | apply below_alloc | apply pw_below_drewN | apply below_drew1 | refine below_set ?_ GE121.out) | exact HB.out)) hb)
     clear BK121
     clear HB
     have HO124:=n0_
     have BK121:=n1_
     have HB:=n2_
     clear n0_ n1_ n2_
     (try clear hb)
     (try clear hb2)
     (try clear hk)
     (try clear hi)
     (try clear ho0)
     refine hK.out _ _ ⟨(blk_cell BK121.out 0).trans rfl,(blk_cell BK121.out 1).trans rfl,(blk_cell BK121.out 2).trans rfl,(blk_cell BK121.out 3).trans rfl⟩ (fun hHeld => ?_)
     clear hK K
     refine norm_ (a':=?_) ?_ ?_
     rotate_left
     ·show Act.put _ (some 8) _ = _
      simp only [Act.put,sA_,s0_,s1_,i64_w,i32_w]
      rfl
     refine one_ (i:=3) (N:=some 10) #[true,true,true,true,false,false] rfl rfl (by kernel_rfl) (by decide) (fun K hK => ?_)
     refine Kd.R_lit_step k55 _ 55 ?hg (N:=10) ?hd (xs:=([(⟨a1_0,a1_1,a1_2,a1_3⟩ : S55)] : List (S55))) (inner := [.int .i64 a1_0, .string a1_1, .bool a1_2, .int .i64 a1_3]) (ok:=fun _ => True) (okp:=fun _ => True) ?hr ?hp (fun _ hk => hk) trivial (Below.refl _ _) (Nat.le_refl _) (by simp) ?_;(case hd => rfl);(case hg => rfl);(case hr => first | (go_simp;done) | (go_simp;rfl));(case hp => exact (Reps.c4 (show Kd.M k55 _ _ _ (⟨a1_0,a1_1,a1_2,a1_3⟩ : S55) [.int .i64 a1_0, .string a1_1, .bool a1_2, .int .i64 a1_3] from (k55_mkM _ _ _ (⟨a1_0,a1_1,a1_2,a1_3⟩ : S55) )) (Reps.none _ _)))
     intro v126 w20 ho21 hb hg_ hnew_
     clear hg_ hnew_
     (first | rw [← Ny125.out] at ho21 | (simp only [Int.reduceToNat] at ho21;rw [← Ny125.out] at ho21))
     have n0_:=Aside0.mk (Kd.R_elder' (by (with_reducible repeat (first | apply Kd.R_alloc | apply Kd.R_drewN | apply Kd.R_drew));exact HO124.out) (Kd.R_base ho21) hb)
     have n1_:=Aside0.mk (Kd.R_lower (Kd.R_newB (Kd.R_new' ho21 (Kd.R_lt (by (with_reducible repeat (first | apply Kd.R_alloc | apply Kd.R_drewN | apply Kd.R_drew));exact HO124.out))) (g:=gb121) (o := .cells #[.int .i64 a1_0, .string a1_1, .bool a1_2, .int .i64 a1_3] 55 (0,0)) (by (with_reducible repeat (first | refine blk_drewN ?_ _ | refine blk_drew ?_ | refine blk_alloc ?_ _));exact BK121.out)) (below_size (by repeat (first | (with_reducible first | exact HB.out | apply below_alloc | apply pw_below_drewN | apply below_drew1 | refine below_set ?_ GE121.out) | exact HB.out))))
     have n2_:=Aside0.mk (blk_below (g:=gb121) (o := .cells #[.int .i64 a1_0, .string a1_1, .bool a1_2, .int .i64 a1_3] 55 (0,0)) (by (with_reducible repeat (first | refine blk_drewN ?_ _ | refine blk_drew ?_ | refine blk_alloc ?_ _));exact BK121.out) hb)
     have n3_:=Aside0.mk (below_step (by repeat (first | (with_reducible first | exact HB.out | apply below_alloc | apply pw_below_drewN | apply below_drew1 | refine below_set ?_ GE121.out) | exact HB.out)) hb)
     clear HO124
     clear BK121
     clear HB
     have HO124:=n0_
     have HO127:=n1_
     have BK121:=n2_
     have HB:=n3_
     clear n0_ n1_ n2_ n3_
     clear hb ho21
     refine hK.out _ _ ⟨(blk_cell BK121.out 0).trans rfl,(blk_cell BK121.out 1).trans rfl,(blk_cell BK121.out 2).trans rfl,(blk_cell BK121.out 3).trans rfl⟩ (fun hHeld => ?_)
     clear hK K
     refine norm_ (a':=?_) ?_ ?_
     rotate_left
     ·show Act.put _ (some 10) _ = _
      simp only [Act.put,sA_,s0_,s1_,i64_w,i32_w]
      rfl
     exact norm_ (by simp only [putAll,Act.put,sA_,s0_,s1_]) (hCont (v123,v126) _ ⟨hHeld,(by (with_reducible repeat (first | apply Kd.R_alloc | apply Kd.R_drewN | apply Kd.R_drew));exact Kd.R_mono HO124.out (fun _ hk => ⟨hk.2,hk.1.2⟩)),(by (with_reducible repeat (first | apply Kd.R_alloc | apply Kd.R_drewN | apply Kd.R_drew));exact Kd.R_mono HO127.out (fun _ hk => ⟨hk.1.2,hk.2⟩)),(by (with_reducible repeat (first | refine blk_drewN ?_ _ | refine blk_drew ?_ | refine blk_alloc ?_ _));exact BK121.out),(by repeat (first | (with_reducible first | exact HB.out | apply below_alloc | apply pw_below_drewN | apply below_drew1 | refine below_set ?_ GE121.out) | exact HB.out))⟩)
    ·skip
     refine Kd.R_lit_step k55 _ 55 ?hg (N:=10) ?hd (xs:=([(⟨a1_0,a1_1,a1_2,a1_3⟩ : S55)] : List (S55))) (inner := [.int .i64 a1_0, .string a1_1, .bool a1_2, .int .i64 a1_3]) (ok:=fun _ => True) (okp:=fun _ => True) ?hr ?hp (fun _ hk => hk) trivial (Below.refl _ _) (Nat.le_refl _) (by simp) ?_;(case hd => rfl);(case hg => rfl);(case hr => first | (go_simp;done) | (go_simp;rfl));(case hp => exact (Reps.c4 (show Kd.M k55 _ _ _ (⟨a1_0,a1_1,a1_2,a1_3⟩ : S55) [.int .i64 a1_0, .string a1_1, .bool a1_2, .int .i64 a1_3] from (k55_mkM _ _ _ (⟨a1_0,a1_1,a1_2,a1_3⟩ : S55) )) (Reps.none _ _)))
     intro v126 w19 ho20 hb hg_ hnew_
     clear hg_ hnew_
     (first | rw [← Ny125.out] at ho20 | (simp only [Int.reduceToNat] at ho20;rw [← Ny125.out] at ho20))
     have n0_:=Aside0.mk (Kd.R_lower (Kd.R_newB ho20 (g:=gb121) (o := .cells #[.int .i64 a1_0, .string a1_1, .bool a1_2, .int .i64 a1_3] 55 (0,0)) (by (with_reducible repeat (first | refine blk_drewN ?_ _ | refine blk_drew ?_ | refine blk_alloc ?_ _));exact BK121.out)) (below_size (by repeat (first | (with_reducible first | exact HB.out | apply below_alloc | apply pw_below_drewN | apply below_drew1 | refine below_set ?_ GE121.out) | exact HB.out))))
     have n1_:=Aside0.mk (blk_below (g:=gb121) (o := .cells #[.int .i64 a1_0, .string a1_1, .bool a1_2, .int .i64 a1_3] 55 (0,0)) (by (with_reducible repeat (first | refine blk_drewN ?_ _ | refine blk_drew ?_ | refine blk_alloc ?_ _));exact BK121.out) hb)
     have n2_:=Aside0.mk (below_step (by repeat (first | (with_reducible first | exact HB.out | apply below_alloc | apply pw_below_drewN | apply below_drew1 | refine below_set ?_ GE121.out) | exact HB.out)) hb)
     clear BK121
     clear HB
     have HO127:=n0_
     have BK121:=n1_
     have HB:=n2_
     clear n0_ n1_ n2_
     clear hb ho20
     refine hK.out _ _ ⟨(blk_cell BK121.out 0).trans rfl,(blk_cell BK121.out 1).trans rfl,(blk_cell BK121.out 2).trans rfl,(blk_cell BK121.out 3).trans rfl⟩ (fun hHeld => ?_)
     clear hK K
     refine norm_ (a':=?_) ?_ ?_
     rotate_left
     ·show Act.put _ (some 10) _ = _
      simp only [Act.put,sA_,s0_,s1_,i64_w,i32_w]
      rfl
     refine one_ (i:=1) (N:=some 8) #[true,true,true,true,false,false] rfl rfl (by kernel_rfl) (by decide) (fun K hK => ?_)
     refine goes_ Try.func58 (by kernel_rfl) rfl #[.slice A0 l0.length c0] (by rfl) rfl rfl (by (try simp only [List.map_toArray,List.map_cons,List.map_nil]);first | done | rfl | (simp only [List.length_drop,List.length_take];rfl)) ?_
     with_reducible refine (slices_Clone_impl_Entry.calls _ _ l0 t122 _ ?side1 ?side2 A3.out).mono ?_
     (case side1 => repeat (first | exact (Kd.C_below HR0.out HB.out) | (with_reducible refine Kd.C_alloc ?_ _) | (with_reducible refine Kd.C_drewN ?_ _) | (with_reducible refine Kd.C_drew ?_)))
     (case side2 => exact HC0.out)
     rintro e w21 ⟨v123,rfl,ho0,hb⟩
     refine ⟨_,rfl, ?_⟩
     have n0_:=Aside0.mk (Kd.R_elder' (by (with_reducible repeat (first | apply Kd.R_alloc | apply Kd.R_drewN | apply Kd.R_drew));exact HO127.out) (Kd.R_base ho0) hb)
     have n1_:=Aside0.mk (Kd.R_lower (Kd.R_newB (Kd.R_new' ho0 (Kd.R_lt (by (with_reducible repeat (first | apply Kd.R_alloc | apply Kd.R_drewN | apply Kd.R_drew));exact HO127.out))) (g:=gb121) (o := .cells #[.int .i64 a1_0, .string a1_1, .bool a1_2, .int .i64 a1_3] 55 (0,0)) (by (with_reducible repeat (first | refine blk_drewN ?_ _ | refine blk_drew ?_ | refine blk_alloc ?_ _));exact BK121.out)) (below_size (by repeat (first | (with_reducible first | exact HB.out | apply below_alloc | apply pw_below_drewN | apply below_drew1 | refine below_set ?_ GE121.out) | exact HB.out))))
     have n2_:=Aside0.mk (blk_below (g:=gb121) (o := .cells #[.int .i64 a1_0, .string a1_1, .bool a1_2, .int .i64 a1_3] 55 (0,0)) (by (with_reducible repeat (first | refine blk_drewN ?_ _ | refine blk_drew ?_ | refine blk_alloc ?_ _));exact BK121.out) hb)
     have n3_:=Aside0.mk (below_step (by repeat (first | (with_reducible first | exact HB.out | apply below_alloc | apply pw_below_drewN | apply below_drew1 | refine below_set ?_ GE121.out) | exact HB.out)) hb)
     clear HO127
     clear BK121
     clear HB
     have HO127:=n0_
     have HO124:=n1_
     have BK121:=n2_
     have HB:=n3_
     clear n0_ n1_ n2_ n3_
     (try clear hb)
     (try clear hb2)
     (try clear hk)
     (try clear hi)
     (try clear ho0)
     refine hK.out _ _ ⟨(blk_cell BK121.out 0).trans rfl,(blk_cell BK121.out 1).trans rfl,(blk_cell BK121.out 2).trans rfl,(blk_cell BK121.out 3).trans rfl⟩ (fun hHeld => ?_)
     clear hK K
     refine norm_ (a':=?_) ?_ ?_
     rotate_left
     ·show Act.put _ (some 8) _ = _
      simp only [Act.put,sA_,s0_,s1_,i64_w,i32_w]
      rfl
     exact norm_ (by simp only [putAll,Act.put,sA_,s0_,s1_]) (hCont (v123,v126) _ ⟨hHeld,(by (with_reducible repeat (first | apply Kd.R_alloc | apply Kd.R_drewN | apply Kd.R_drew));exact Kd.R_mono HO124.out (fun _ hk => ⟨hk.1.2,hk.2⟩)),(by (with_reducible repeat (first | apply Kd.R_alloc | apply Kd.R_drewN | apply Kd.R_drew));exact Kd.R_mono HO127.out (fun _ hk => ⟨hk.2,hk.1.2⟩)),(by (with_reducible repeat (first | refine blk_drewN ?_ _ | refine blk_drew ?_ | refine blk_alloc ?_ _));exact BK121.out),(by repeat (first | (with_reducible first | exact HB.out | apply below_alloc | apply pw_below_drewN | apply below_drew1 | refine below_set ?_ GE121.out) | exact HB.out))⟩)
   rintro ⟨v123,v126⟩ w22 ⟨hS_,h0_,h1_,h2_,h3_⟩
   have n0_ : Aside0 (Kd.R k55 55 w22 w.heap.size (fun k_ => some k_ ≠ (v126 : Value).ownBlock ∧ k_ ≠ gb121) v123 t122):=⟨h0_⟩
   have n1_ : Aside0 (Kd.R k55 55 w22 w.heap.size (fun k_ => some k_ ≠ (v123 : Value).ownBlock ∧ k_ ≠ gb121) v126 y125):=⟨h1_⟩
   have n2_ : Aside0 (w22.heap[gb121]? = some (.cells #[.int .i64 a1_0, .string a1_1, .bool a1_2, .int .i64 a1_3] 55 (0,0))):=⟨h2_⟩
   have n3_ : Aside0 (Below w.heap.size w w22):=⟨h3_⟩
   clear BK121
   clear HB
   clear h0_ h1_ h2_ h3_
   have HO124:=n0_
   have HO127:=n1_
   have BK121:=n2_
   have HB:=n3_
   clear n0_ n1_ n2_ n3_
   have hHeld : w22.cell? ⟨gb121,0,none⟩ = some (.int .i64 a1_0) ∧ w22.cell? ⟨gb121,1,none⟩ = some (.string a1_1) ∧ w22.cell? ⟨gb121,2,none⟩ = some (.bool a1_2) ∧ w22.cell? ⟨gb121,3,none⟩ = some (.int .i64 a1_3):=hS_
   obtain ⟨Ao24,co24,eo24⟩ := Kd.R_slice HO127.out
   (first | subst eo24 | (injection eo24 with f1_ f2_ f3_;have f4_:=f1_.symm;have f5_:=f3_.symm;clear f1_ f2_ f3_;subst f4_;subst f5_))
   refine norm_ (a':=?_) ?_ ?_
   rotate_left
   ·simp only [putAll,Act.put,sA_,s0_,s1_]
    rfl
   refine one_ (i:=4) (N:=some 11) #[true,true,true,true,true,false] rfl rfl (by kernel_rfl) (by decide) (fun K hK => ?_)
   refine Kd.R_append_rows_step k55 (w0:=w) w.heap.size (by rfl) (.tmp 8) (.tmp 10) 27 55 (.agg #[(.int .i64 0),(.string ⟨#[]⟩),(.bool false),(.int .i64 0)]) 40 rfl Try.underlying27 info55 rfl (by decide) (by omega) v123 t122 y125 _ _ _ (fun k_ => some k_ ≠ (.slice Ao24 y125.length co24 : Value).ownBlock ∧ k_ ≠ gb121) (fun _ => False) rfl rfl ?aO ?aR (fun _ _ h => h) (fun _ h => h.elim) ?aF ?aB ?aS ?aL ?_
   (case aR => repeat (first | exact (Kd.R_reads' HO127.out).2.2 | (with_reducible refine Kd.C_alloc ?_ _) | (with_reducible refine Kd.C_drewN ?_ _) | (with_reducible refine Kd.C_drew ?_)))
   (case aB => exact (by repeat (first | (with_reducible first | exact HB.out | apply below_alloc | apply pw_below_drewN | apply below_drew1 | refine below_set ?_ GE121.out) | exact HB.out)))
   (case aF => exact (fun k_ hk => ⟨Kd.fresh' (Kd.R_lt (by (with_reducible repeat (first | apply Kd.R_alloc | apply Kd.R_drewN | apply Kd.R_drew));exact HO127.out)) k_ hk,Kd.freshB (g:=gb121) (o := .cells #[.int .i64 a1_0, .string a1_1, .bool a1_2, .int .i64 a1_3] 55 (0,0)) (by (with_reducible repeat (first | refine blk_drewN ?_ _ | refine blk_drew ?_ | refine blk_alloc ?_ _));exact BK121.out) k_ hk⟩))
   (case aO => exact (by (with_reducible repeat (first | apply Kd.R_alloc | apply Kd.R_drewN | apply Kd.R_drew));exact HO124.out))
   (case aS => exact (below_size (by repeat (first | (with_reducible first | exact HB.out | apply below_alloc | apply pw_below_drewN | apply below_drew1 | refine below_set ?_ GE121.out) | exact HB.out))))
   (case aL => have:=LMc4.out;omega)
   intro v129 w23 ho hb hg hat
   rw [← Ny128.out] at ho
   have n0_:=Aside0.mk (blk_grown (g:=gb121) (o := .cells #[.int .i64 a1_0, .string a1_1, .bool a1_2, .int .i64 a1_3] 55 (0,0)) (by (with_reducible repeat (first | refine blk_drewN ?_ _ | refine blk_drew ?_ | refine blk_alloc ?_ _));exact BK121.out) hg (Kd.R_away HO124.out (fun _ hk => hk.2)))
   have n1_:=Aside0.mk (Kd.R_after (ok:=(fun k_ => k_ ≠ gb121)) (by (with_reducible repeat (first | apply Kd.R_alloc | apply Kd.R_drewN | apply Kd.R_drew));exact Kd.R_mono HO127.out (fun _ hk => ⟨hk.2,hk.1⟩)) hg hat)
   have n2_:=Aside0.mk (hb)
   have n3_:=Aside0.mk (ho)
   clear BK121
   clear HO127
   clear HB
   clear HO124
   have BK121:=n0_
   have HO127:=n1_
   have HB:=n2_
   have HO130:=n3_
   clear n0_ n1_ n2_ n3_
   clear ho hb hg hat
   refine hK.out _ _ ⟨(blk_cell BK121.out 0).trans rfl,(blk_cell BK121.out 1).trans rfl,(blk_cell BK121.out 2).trans rfl,(blk_cell BK121.out 3).trans rfl⟩ (fun hHeld => ?_)
   clear hK K
   refine norm_ (a':=?_) ?_ ?_
   rotate_left
   ·show Act.put _ (some 11) _ = _
    simp only [Act.put,sA_,s0_,s1_,i64_w,i32_w]
    rfl
   refine pure_ (i:=5) (N:=some 6) (v:=?_) (a':=?_) #[true,true,true,true,true,true] rfl rfl (by kernel_rfl) (fun _ _ _ h => h) (Or.inl ⟨by rfl, ?_⟩) ?_ ?_
   rotate_left
   ·intro w'
    go_simp
    with_reducible rfl
   rotate_left
   ·simp only [Act.put,sA_,s0_,s1_,i64_w,i32_w]
    rfl
   refine done_ (by kernel_rfl) ?_
   obtain ⟨Ao25,co25,eo25⟩ := Kd.R_slice HO130.out
   subst eo25
   try go_wp2_with (first | ((with_reducible refine gate_callee (f:=22) rfl ?_);refine goesL_ (some 13) rfl rfl Try.func22 (by kernel_rfl) rfl #[.slice Ao25 y128.length co25] rfl (by (try simp only [List.map_toArray,List.map_cons,List.map_nil]);first | done | rfl | (simp only [List.length_drop,List.length_take];rfl)) ?_;(with_reducible refine (impl_IsValidFile.calls k _ _ y128 false _ ?side1 ?side2 A5.out).mono ?_);(case side1 => repeat (first | exact (Kd.R_reads' HO130.out).2.2 | (with_reducible refine Kd.C_alloc ?_ _) | (with_reducible refine Kd.C_drewN ?_ _) | (with_reducible refine Kd.C_drew ?_)));(case side2 => exact (Kd.R_reads' HO130.out).2.1);rintro e w26 ⟨rfl,hb⟩;refine ⟨_,rfl, ?_⟩;have n0_:=Aside0.mk (Kd.R_below (by (with_reducible repeat (first | apply Kd.R_alloc | apply Kd.R_drewN | apply Kd.R_drew));exact HO127.out) hb);have n1_:=Aside0.mk (Kd.R_below (by (with_reducible repeat (first | apply Kd.R_alloc | apply Kd.R_drewN | apply Kd.R_drew));exact HO130.out) hb);have n2_:=Aside0.mk (blk_below (g:=gb121) (o := .cells #[.int .i64 a1_0, .string a1_1, .bool a1_2, .int .i64 a1_3] 55 (0,0)) (by (with_reducible repeat (first | refine blk_drewN ?_ _ | refine blk_drew ?_ | refine blk_alloc ?_ _));exact BK121.out) hb);have n3_:=Aside0.mk (below_step (by repeat (first | (with_reducible first | exact HB.out | apply below_alloc | apply pw_below_drewN | apply below_drew1 | refine below_set ?_ GE121.out) | exact HB.out)) hb);clear HO127;clear HO130;clear BK121;clear HB;have HO127:=n0_;have HO130:=n1_;have BK121:=n2_;have HB:=n3_;clear n0_ n1_ n2_ n3_;(try clear hb);(try clear hb2);(try clear hk);(try clear hi)))
   go_ret2
   exact ⟨_,by first | rfl | (simp [errW_none,errW_some] <;> rfl) | (simp [*,errW_none,errW_some] <;> rfl),by first | exact Kd.R_nil _ _ _ _ _ | exact Kd.N_nil _ _ _ _ _ | exact Kd.V_nil _ _ _ _ _ | exact Kd.Q_nil _ _ _ _ _ | exact Kd.S_nil _ _ _ _ _,by repeat (first | (with_reducible first | exact HB.out | apply below_alloc | apply pw_below_drewN | apply below_drew1 | refine below_set ?_ GE121.out) | exact HB.out)⟩
 ·rw [if_neg c4] at H
  exact absurd H (by simp)

/-! ### impl_isFileAt: function 56 -/
def impl_isFileAt.f (k : Nat) (l0 : List (S55)) (a1 : ByteArray) (a2 : Int) : Option (Bool):=(impl_IsValidFile.f k l0).bind fun t132 => (if t132 = true then ((impl_IsValidId.f k a1).bind fun t133 => (if t133 = true then ((impl_within.f a2 0 240).bind fun t134 => (some t134)) else (some false))) else (some false))
theorem impl_isFileAt.mono : ∀ a0 a1 a2 k,LeO (impl_isFileAt.f k a0 a1 a2) (impl_isFileAt.f (k + 1) a0 a1 a2):=by
 intro a0 a1 a2 k
 unfold impl_isFileAt.f
 repeat' first
   | (with_reducible exact impl_IsValidFile.mono _ _)
   | (with_reducible exact impl_IsValidId.mono _ _)
   | (with_reducible exact LeO.refl _)
   | (with_reducible exact LeO.none _)
   | (with_reducible refine LeO.ite ?_ ?_)
   | (with_reducible refine LeO.bind ?_ (fun _ => ?_))
   | exact impl_IsValidFile.mono _ _
   | exact impl_IsValidId.mono _ _
   | exact LeO.none _
   | refine LeO.ite ?_ ?_
   | refine LeO.bind ?_ (fun _ => ?_)
set_option maxHeartbeats 8000000 in
set_option maxRecDepth 100000 in
theorem impl_isFileAt.calls (k : Nat) (A0 : Option Addr) (c0 : Nat) (l0 : List (S55)) (a1 : ByteArray) (a2 : Int) (r : Bool) (w : World) (hr0 : Kd.C k55 w A0 l0.length l0) (hc0 : l0.length ≤ c0) (h : impl_isFileAt.f k l0 a1 a2 = some r) :
  Calls Try.prog 56 #[.slice A0 l0.length c0, .string a1, .int .i64 a2] w fun e w' => e = .returned (.bool r) ∧ Below w.heap.size w w':=by
 have HR0:=Aside0.mk hr0
 have HC0:=Aside0.mk hc0
 clear hr0 hc0
 have HB:=Aside0.mk (Below.refl w.heap.size w)
 have H : ((impl_IsValidFile.f k l0).bind fun t132 => (if t132 = true then ((impl_IsValidId.f k a1).bind fun t133 => (if t133 = true then ((impl_within.f a2 0 240).bind fun t134 => (some t134)) else (some false))) else (some false))) = some r:=h
 clear h
 replace H:=Option.bind_eq_some_iff.mp H
 obtain ⟨t132,A40,H⟩ := H
 replace H : (if t132 = true then ((impl_IsValidId.f k a1).bind fun t133 => (if t133 = true then ((impl_within.f a2 0 240).bind fun t134 => (some t134)) else (some false))) else (some false)) = some r:=H
 have A4:=Aside0.mk A40
 clear A40
 by_cases c5 : t132 = true
 ·subst c5
  have H1 : ((impl_IsValidId.f k a1).bind fun t133 => (if t133 = true then ((impl_within.f a2 0 240).bind fun t134 => (some t134)) else (some false))) = some r:=by rw [if_pos rfl] at H;exact H
  clear H
  have H:=H1
  clear H1
  replace H:=Option.bind_eq_some_iff.mp H
  obtain ⟨t133,A60,H⟩ := H
  replace H : (if t133 = true then ((impl_within.f a2 0 240).bind fun t134 => (some t134)) else (some false)) = some r:=H
  have A6:=Aside0.mk A60
  clear A60
  by_cases c7 : t133 = true
  ·subst c7
   have H1 : ((impl_within.f a2 0 240).bind fun t134 => (some t134)) = some r:=by rw [if_pos rfl] at H;exact H
   clear H
   have H:=H1
   clear H1
   replace H:=Option.bind_eq_some_iff.mp H
   obtain ⟨t134,A80,H⟩ := H
   replace H : (some t134) = some r:=H
   have A8:=Aside0.mk A80
   clear A80
   obtain rfl:=Option.some.inj H
   go_enter Try.func56,Try.ntmps56
   go_wp2_with (first | ((with_reducible refine gate_callee (f:=22) rfl ?_);refine goesL_ (some 8) rfl rfl Try.func22 (by kernel_rfl) rfl #[.slice A0 l0.length c0] rfl (by (try simp only [List.map_toArray,List.map_cons,List.map_nil]);first | done | rfl | (simp only [List.length_drop,List.length_take];rfl)) ?_;(with_reducible refine (impl_IsValidFile.calls k _ _ l0 true _ ?side1 ?side2 A4.out).mono ?_);(case side1 => repeat (first | exact HR0.out | (with_reducible refine Kd.C_alloc ?_ _) | (with_reducible refine Kd.C_drewN ?_ _) | (with_reducible refine Kd.C_drew ?_)));(case side2 => exact HC0.out);rintro e w9 ⟨rfl,hb⟩;refine ⟨_,rfl, ?_⟩;have n0_:=Aside0.mk (below_step (by repeat (first | (with_reducible first | exact HB.out | apply below_alloc | apply pw_below_drewN | apply below_drew1) | exact HB.out)) hb);clear HB;have HB:=n0_;clear n0_;(try clear hb);(try clear hb2);(try clear hk);(try clear hi)) | (go_at_call 81;(with_reducible refine (impl_IsValidId.calls k a1 true _ A6.out).mono ?_);rintro e w' ⟨rfl,⟨nd,rfl⟩⟩) | (go_at_call 54;(with_reducible refine (impl_within.calls a2 0 240 t134 _ A8.out).mono ?_);rintro e w' ⟨rfl,⟨nd,rfl⟩⟩))
   go_ret
   exact ⟨by first | rfl | (simp [errW_none,errW_some] <;> rfl) | (simp [*,errW_none,errW_some] <;> rfl),by repeat (first | (with_reducible first | exact HB.out | apply below_alloc | apply pw_below_drewN | apply below_drew1) | exact HB.out)⟩
  ·replace c7:=Bool.eq_false_iff.mpr c7
   subst c7
   have H1 : (some false) = some r:=by rw [if_neg (show ¬ (false = true) by decide)] at H;exact H
   clear H
   have H:=H1
   clear H1
   obtain rfl:=Option.some.inj H
   go_enter Try.func56,Try.ntmps56
   go_wp2_with (first | ((with_reducible refine gate_callee (f:=22) rfl ?_);refine goesL_ (some 8) rfl rfl Try.func22 (by kernel_rfl) rfl #[.slice A0 l0.length c0] rfl (by (try simp only [List.map_toArray,List.map_cons,List.map_nil]);first | done | rfl | (simp only [List.length_drop,List.length_take];rfl)) ?_;(with_reducible refine (impl_IsValidFile.calls k _ _ l0 true _ ?side1 ?side2 A4.out).mono ?_);(case side1 => repeat (first | exact HR0.out | (with_reducible refine Kd.C_alloc ?_ _) | (with_reducible refine Kd.C_drewN ?_ _) | (with_reducible refine Kd.C_drew ?_)));(case side2 => exact HC0.out);rintro e w10 ⟨rfl,hb⟩;refine ⟨_,rfl, ?_⟩;have n0_:=Aside0.mk (below_step (by repeat (first | (with_reducible first | exact HB.out | apply below_alloc | apply pw_below_drewN | apply below_drew1) | exact HB.out)) hb);clear HB;have HB:=n0_;clear n0_;(try clear hb);(try clear hb2);(try clear hk);(try clear hi)) | (go_at_call 81;(with_reducible refine (impl_IsValidId.calls k a1 false _ A6.out).mono ?_);rintro e w' ⟨rfl,⟨nd,rfl⟩⟩))
   go_ret
   exact ⟨by first | rfl | (simp [errW_none,errW_some] <;> rfl) | (simp [*,errW_none,errW_some] <;> rfl),by repeat (first | (with_reducible first | exact HB.out | apply below_alloc | apply pw_below_drewN | apply below_drew1) | exact HB.out)⟩
 ·replace c5:=Bool.eq_false_iff.mpr c5
  subst c5
  have H1 : (some false) = some r:=by rw [if_neg (show ¬ (false = true) by decide)] at H;exact H
  clear H
  have H:=H1
  clear H1
  obtain rfl:=Option.some.inj H
  go_enter Try.func56,Try.ntmps56
  go_wp2_with (first | ((with_reducible refine gate_callee (f:=22) rfl ?_);refine goesL_ (some 8) rfl rfl Try.func22 (by kernel_rfl) rfl #[.slice A0 l0.length c0] rfl (by (try simp only [List.map_toArray,List.map_cons,List.map_nil]);first | done | rfl | (simp only [List.length_drop,List.length_take];rfl)) ?_;(with_reducible refine (impl_IsValidFile.calls k _ _ l0 false _ ?side1 ?side2 A4.out).mono ?_);(case side1 => repeat (first | exact HR0.out | (with_reducible refine Kd.C_alloc ?_ _) | (with_reducible refine Kd.C_drewN ?_ _) | (with_reducible refine Kd.C_drew ?_)));(case side2 => exact HC0.out);rintro e w11 ⟨rfl,hb⟩;refine ⟨_,rfl, ?_⟩;have n0_:=Aside0.mk (below_step (by repeat (first | (with_reducible first | exact HB.out | apply below_alloc | apply pw_below_drewN | apply below_drew1) | exact HB.out)) hb);clear HB;have HB:=n0_;clear n0_;(try clear hb);(try clear hb2);(try clear hk);(try clear hi)))
  go_ret
  exact ⟨by first | rfl | (simp [errW_none,errW_some] <;> rfl) | (simp [*,errW_none,errW_some] <;> rfl),by repeat (first | (with_reducible first | exact HB.out | apply below_alloc | apply pw_below_drewN | apply below_drew1) | exact HB.out)⟩

end Go.Proofs.Ytglidkabkkifnaa.PFnExactReleaseAll
