-- Written by a program of this session, over the kit's print (wip/xprint.py)
import Derived.Test.YteebkbikpamkmaaPFnHoldsx0
import Derived.Test.YteebkbikpamkmaaPFnHoldsx6
namespace Go.Proofs.Yteebkbikpamkmaa.PFnHolds
open Go.RowKit Go.Proofs.YteebkbikpamkmaaW.PrintWords Go.Proofs.YteebkbikpamkmaaW.PrintLast Go.Proofs.YteebkbikpamkmaaW.PrintMore
attribute [local go_sem] max2_int min2_int max_two min_two max_three min_three max_four min_four   -- for this text's walks alone
set_option linter.unusedVariables false
set_option linter.unusedSimpArgs false

/-! ### impl_AddEntry: function 31 -/
def impl_AddEntry.f (k : Nat) (l0 : List (S52)) (a1_0 : Int) (a1_1 : ByteArray) (a1_2 : Bool) (a1_3 : Int) : Option ((List (S52)) × Bool):=(slices_Clone_impl_Entry.f l0).bind fun t300 => ((some (([(⟨a1_0,a1_1,a1_2,a1_3⟩ : S52)] : List (S52)) : List (S52))).bind fun y303 => (if t300.length + y303.length < 3518437208883 then ((some (t300 ++ y303 : List (S52))).bind fun y306 => ((impl_IsValidFile.f k y306).bind fun t309 => (if t309 = true then (some (y306,true)) else (some (([] : List (S52)),false))))) else (none)))
theorem impl_AddEntry.mono : ∀ a0 a1 a2 a3 a4 k,LeO (impl_AddEntry.f k a0 a1 a2 a3 a4) (impl_AddEntry.f (k + 1) a0 a1 a2 a3 a4):=by
 intro a0 a1 a2 a3 a4 k
 unfold impl_AddEntry.f
 repeat' first
   | (with_reducible exact impl_IsValidFile.mono _ _)
   | (with_reducible exact LeO.refl _)
   | (with_reducible exact LeO.none _)
   | (with_reducible refine LeO.ite ?_ ?_)
   | (with_reducible refine LeO.bind ?_ (fun _ => ?_))
   | exact impl_IsValidFile.mono _ _
   | exact LeO.none _
   | refine LeO.ite ?_ ?_
   | refine LeO.bind ?_ (fun _ => ?_)
set_option maxHeartbeats 8000000 in
set_option maxRecDepth 100000 in
theorem impl_AddEntry.calls (k : Nat) (A0 : Option Addr) (c0 : Nat) (l0 : List (S52)) (a1_0 : Int) (a1_1 : ByteArray) (a1_2 : Bool) (a1_3 : Int) (r1 : List (S52)) (r2 : Bool) (w : World) (hr0 : Kd.C k52 w A0 l0.length l0) (hc0 : l0.length ≤ c0) (h : impl_AddEntry.f k l0 a1_0 a1_1 a1_2 a1_3 = some (r1,r2)) :
  Calls Try.prog 31 #[.slice A0 l0.length c0, .agg #[.int .i64 a1_0, .string a1_1, .bool a1_2, .int .i64 a1_3]] w fun e w' => ∃ v0_ : Value,e = .returned (.tuple #[v0_, .bool r2]) ∧ Kd.R k52 52 w' w.heap.size (fun _ => True) v0_ r1 ∧ Below w.heap.size w w':=by
 have hu52:=Try.underlying52
 have HR0:=Aside0.mk hr0
 have HC0:=Aside0.mk hc0
 clear hr0 hc0
 have HB:=Aside0.mk (Below.refl w.heap.size w)
 have H : ((slices_Clone_impl_Entry.f l0).bind fun t300 => ((some (([(⟨a1_0,a1_1,a1_2,a1_3⟩ : S52)] : List (S52)) : List (S52))).bind fun y303 => (if t300.length + y303.length < 3518437208883 then ((some (t300 ++ y303 : List (S52))).bind fun y306 => ((impl_IsValidFile.f k y306).bind fun t309 => (if t309 = true then (some (y306,true)) else (some (([] : List (S52)),false))))) else (none)))) = some (r1,r2):=h
 clear h
 replace H:=Option.bind_eq_some_iff.mp H
 obtain ⟨t300,A30,H⟩ := H
 replace H : ((some (([(⟨a1_0,a1_1,a1_2,a1_3⟩ : S52)] : List (S52)) : List (S52))).bind fun y303 => (if t300.length + y303.length < 3518437208883 then ((some (t300 ++ y303 : List (S52))).bind fun y306 => ((impl_IsValidFile.f k y306).bind fun t309 => (if t309 = true then (some (y306,true)) else (some (([] : List (S52)),false))))) else (none))) = some (r1,r2):=H
 have A3:=Aside0.mk A30
 clear A30
 obtain ⟨y303,hy303⟩ : ∃ y_ : List (S52),y_ = (([(⟨a1_0,a1_1,a1_2,a1_3⟩ : S52)] : List (S52))):=⟨_,rfl⟩
 replace H : (if t300.length + y303.length < 3518437208883 then ((some (t300 ++ y303 : List (S52))).bind fun y306 => ((impl_IsValidFile.f k y306).bind fun t309 => (if t309 = true then (some (y306,true)) else (some (([] : List (S52)),false))))) else (none)) = some (r1,r2):=by (have H2_:=(Option.bind_some _ _).symm.trans H;rw [hy303];with_reducible exact H2_)
 have Ny303:=Aside0.mk hy303
 clear hy303
 by_cases c4 : t300.length + y303.length < 3518437208883
 ·rw [if_pos c4] at H
  have LMc4:=Aside0.mk c4
  clear c4
  obtain ⟨y306,hy306⟩ : ∃ y_ : List (S52),y_ = (t300 ++ y303):=⟨_,rfl⟩
  replace H : ((impl_IsValidFile.f k y306).bind fun t309 => (if t309 = true then (some (y306,true)) else (some (([] : List (S52)),false)))) = some (r1,r2):=by (have H2_:=(Option.bind_some _ _).symm.trans H;rw [hy306];with_reducible exact H2_)
  have Ny306:=Aside0.mk hy306
  clear hy306
  replace H:=Option.bind_eq_some_iff.mp H
  obtain ⟨t309,A50,H⟩ := H
  replace H : (if t309 = true then (some (y306,true)) else (some (([] : List (S52)),false))) = some (r1,r2):=H
  have A5:=Aside0.mk A50
  clear A50
  by_cases c6 : t309 = true
  ·subst c6
   have H1 : (some (y306,true)) = some (r1,r2):=by rw [if_pos rfl] at H;exact H
   clear H
   have H:=H1
   clear H1
   simp only [Option.some.injEq,Prod.mk.injEq] at H
   obtain ⟨rfl,rfl⟩ := H
   go_enter Try.func31,Try.ntmps31
   try go_wp2_with (((with_reducible refine gate_dst (N:=3) rfl ?_);refine box_event ?hg (N:=3) ?hd (cs:=#[.int .i64 a1_0, .string a1_1, .bool a1_2, .int .i64 a1_3]) (t:=52) ?hr ?_;(case hd => rfl);(case hg => rfl);(case hr => (go_simp;done));intro gb299 hg w7 hbox hb;have n0_:=Aside0.mk (below_step (by exact HB.out) hb);have n1_:=Aside0.mk (hbox);have n2_:=Aside0.mk ((by rw [hg];exact (below_size (by exact HB.out)) : w.heap.size ≤ gb299));have n3_:=Aside0.mk ((by rw [hg];exact (below_size (by exact HB.out)) : w.heap.size ≤ gb299));clear HB;have HB:=n0_;have BK299:=n1_;have GW299:=n2_;have GE299:=n3_;clear n0_ n1_ n2_ n3_;clear hb hbox hg))
   have n0_:=Aside0.mk (blk_drew BK299.out)
   have n1_:=Aside0.mk (below_drew1 HB.out)
   clear BK299
   clear HB
   have BK299:=n0_
   have HB:=n1_
   clear n0_ n1_
   refine start_ (n:=6) (S:=fun w' => w'.cell? ⟨gb299,0,none⟩ = some (.int .i64 a1_0) ∧ w'.cell? ⟨gb299,1,none⟩ = some (.string a1_1) ∧ w'.cell? ⟨gb299,2,none⟩ = some (.bool a1_2) ∧ w'.cell? ⟨gb299,3,none⟩ = some (.int .i64 a1_3)) (ds := []) #[false,false,false,false,false,false] (by kernel_rfl) rfl rfl ⟨(blk_cell BK299.out 0).trans rfl,(blk_cell BK299.out 1).trans rfl,(blk_cell BK299.out 2).trans rfl,(blk_cell BK299.out 3).trans rfl⟩ (fun hHeld => ?_)
   generalize w7.drew = w8 at BK299 HB hHeld ⊢
   refine pure_ (i:=0) (N:=some 7) (v:=?_) (a':=?_) #[true,false,false,false,false,false] rfl rfl (by kernel_rfl) (fun _ _ _ h => h) (Or.inl ⟨by rfl, ?_⟩) ?_ ?_
   rotate_left
   ·intro w'
    go_simp
    with_reducible rfl
   rotate_left
   ·simp only [Act.put,sA_,s0_,s1_,i64_w,i32_w]
    rfl
   refine take_ (i:=2) (N:=some 9) (v:=?_) (a':=?_) #[true,false,true,false,false,false] rfl rfl (by kernel_rfl) (fun _ _ _ h => h) (Or.inl ⟨by rfl, ?_⟩) hHeld ?_ ?_
   rotate_left
   ·rintro w' ⟨s0,s1,s2,s3⟩
    go_simp
    with_reducible rfl
   rotate_left
   ·simp only [Act.put,sA_,s0_,s1_,i64_w,i32_w]
    rfl
   refine join_ (σ:=Value × Value) 2 #[true,true,true,true,false,false] (fun s_ => [(8,s_.1),(10,s_.2)]) (fun s_ w' => (w'.cell? ⟨gb299,0,none⟩ = some (.int .i64 a1_0) ∧ w'.cell? ⟨gb299,1,none⟩ = some (.string a1_1) ∧ w'.cell? ⟨gb299,2,none⟩ = some (.bool a1_2) ∧ w'.cell? ⟨gb299,3,none⟩ = some (.int .i64 a1_3)) ∧ (Kd.R k52 52 w' w.heap.size (fun k_ => some k_ ≠ (s_.2 : Value).ownBlock ∧ k_ ≠ gb299) s_.1 t300) ∧ (Kd.R k52 52 w' w.heap.size (fun k_ => some k_ ≠ (s_.1 : Value).ownBlock ∧ k_ ≠ gb299) s_.2 y303) ∧ (w'.heap[gb299]? = some (.cells #[.int .i64 a1_0, .string a1_1, .bool a1_2, .int .i64 a1_3] 52 (0,0))) ∧ (Below w.heap.size w w')) ?_ ?_
   rotate_left
   ·intro hCont
    refine two_ (i:=1) (j:=3) (Ni:=some 8) (Nj:=some 10) #[true,true,true,false,false,false] #[true,false,true,true,false,false] rfl rfl rfl rfl (by kernel_rfl) (by decide) (by decide) (fun K hK => ?_) (fun K hK => ?_)
    ·skip
     refine goes_ Try.func30 (by kernel_rfl) rfl #[.slice A0 l0.length c0] (by rfl) rfl rfl (by (try simp only [List.map_toArray,List.map_cons,List.map_nil]);rfl) ?_
     with_reducible refine (slices_Clone_impl_Entry.calls _ _ l0 t300 _ ?side1 ?side2 A3.out).mono ?_
     (case side1 => repeat (exact (Kd.C_below HR0.out HB.out)))
     (case side2 => exact HC0.out)
     rintro e w9 ⟨v301,rfl,ho0,hb⟩
     refine ⟨_,rfl, ?_⟩
     have n0_:=Aside0.mk (Kd.R_lower (Kd.R_newB ho0 (g:=gb299) (o := .cells #[.int .i64 a1_0, .string a1_1, .bool a1_2, .int .i64 a1_3] 52 (0,0)) (by exact BK299.out)) (below_size (by exact HB.out)))
     have n1_:=Aside0.mk (blk_below (g:=gb299) (o := .cells #[.int .i64 a1_0, .string a1_1, .bool a1_2, .int .i64 a1_3] 52 (0,0)) (by exact BK299.out) hb)
     have n2_:=Aside0.mk (below_step (by exact HB.out) hb)
     clear BK299
     clear HB
     have HO302:=n0_
     have BK299:=n1_
     have HB:=n2_
     clear n0_ n1_ n2_
     (try clear hb)
     (skip)
     (skip)
     (skip)
     (try clear ho0)
     refine hK.out _ _ ⟨(blk_cell BK299.out 0).trans rfl,(blk_cell BK299.out 1).trans rfl,(blk_cell BK299.out 2).trans rfl,(blk_cell BK299.out 3).trans rfl⟩ (fun hHeld => ?_)
     clear hK K
     refine norm_ (a':=?_) ?_ ?_
     rotate_left
     ·show Act.put _ (some 8) _ = _
      simp only [Act.put,sA_,s0_,s1_,i64_w,i32_w]
      rfl
     refine one_ (i:=3) (N:=some 10) #[true,true,true,true,false,false] rfl rfl (by kernel_rfl) (by decide) (fun K hK => ?_)
     refine Kd.R_lit_step k52 _ 52 ?hg (N:=10) ?hd (xs:=([(⟨a1_0,a1_1,a1_2,a1_3⟩ : S52)] : List (S52))) (inner := [.int .i64 a1_0, .string a1_1, .bool a1_2, .int .i64 a1_3]) (ok:=fun _ => True) (okp:=fun _ => True) ?hr ?hp (fun _ hk => hk) trivial (Below.refl _ _) (Nat.le_refl _) (by simp) ?_;(case hd => rfl);(case hg => rfl);(case hr => (go_simp;done));(case hp => exact (Reps.c4 (show Kd.M k52 _ _ _ (⟨a1_0,a1_1,a1_2,a1_3⟩ : S52) [.int .i64 a1_0, .string a1_1, .bool a1_2, .int .i64 a1_3] from (k52_mkM _ _ _ (⟨a1_0,a1_1,a1_2,a1_3⟩ : S52) )) (Reps.none _ _)))
     intro v304 w10 ho11 hb hg_ hnew_
     clear hg_ hnew_
     (rw [← Ny303.out] at ho11)
     have n0_:=Aside0.mk (Kd.R_elder' (by exact HO302.out) (Kd.R_base ho11) hb)
     have n1_:=Aside0.mk (Kd.R_lower (Kd.R_newB (Kd.R_new' ho11 (Kd.R_lt (by exact HO302.out))) (g:=gb299) (o := .cells #[.int .i64 a1_0, .string a1_1, .bool a1_2, .int .i64 a1_3] 52 (0,0)) (by exact BK299.out)) (below_size (by exact HB.out)))
     have n2_:=Aside0.mk (blk_below (g:=gb299) (o := .cells #[.int .i64 a1_0, .string a1_1, .bool a1_2, .int .i64 a1_3] 52 (0,0)) (by exact BK299.out) hb)
     have n3_:=Aside0.mk (below_step (by exact HB.out) hb)
     clear HO302
     clear BK299
     clear HB
     have HO302:=n0_
     have HO305:=n1_
     have BK299:=n2_
     have HB:=n3_
     clear n0_ n1_ n2_ n3_
     clear hb ho11
     refine hK.out _ _ ⟨(blk_cell BK299.out 0).trans rfl,(blk_cell BK299.out 1).trans rfl,(blk_cell BK299.out 2).trans rfl,(blk_cell BK299.out 3).trans rfl⟩ (fun hHeld => ?_)
     clear hK K
     refine norm_ (a':=?_) ?_ ?_
     rotate_left
     ·show Act.put _ (some 10) _ = _
      simp only [Act.put,sA_,s0_,s1_,i64_w,i32_w]
      rfl
     exact norm_ (by simp only [putAll,Act.put,sA_,s0_,s1_]) (hCont (v301,v304) _ ⟨hHeld,(by exact Kd.R_mono HO302.out (fun _ hk => ⟨hk.2,hk.1.2⟩)),(by exact Kd.R_mono HO305.out (fun _ hk => ⟨hk.1.2,hk.2⟩)),(by exact BK299.out),(by exact HB.out)⟩)
    ·skip
     refine Kd.R_lit_step k52 _ 52 ?hg (N:=10) ?hd (xs:=([(⟨a1_0,a1_1,a1_2,a1_3⟩ : S52)] : List (S52))) (inner := [.int .i64 a1_0, .string a1_1, .bool a1_2, .int .i64 a1_3]) (ok:=fun _ => True) (okp:=fun _ => True) ?hr ?hp (fun _ hk => hk) trivial (Below.refl _ _) (Nat.le_refl _) (by simp) ?_;(case hd => rfl);(case hg => rfl);(case hr => (go_simp;done));(case hp => exact (Reps.c4 (show Kd.M k52 _ _ _ (⟨a1_0,a1_1,a1_2,a1_3⟩ : S52) [.int .i64 a1_0, .string a1_1, .bool a1_2, .int .i64 a1_3] from (k52_mkM _ _ _ (⟨a1_0,a1_1,a1_2,a1_3⟩ : S52) )) (Reps.none _ _)))
     intro v304 w9 ho10 hb hg_ hnew_
     clear hg_ hnew_
     (rw [← Ny303.out] at ho10)
     have n0_:=Aside0.mk (Kd.R_lower (Kd.R_newB ho10 (g:=gb299) (o := .cells #[.int .i64 a1_0, .string a1_1, .bool a1_2, .int .i64 a1_3] 52 (0,0)) (by exact BK299.out)) (below_size (by exact HB.out)))
     have n1_:=Aside0.mk (blk_below (g:=gb299) (o := .cells #[.int .i64 a1_0, .string a1_1, .bool a1_2, .int .i64 a1_3] 52 (0,0)) (by exact BK299.out) hb)
     have n2_:=Aside0.mk (below_step (by exact HB.out) hb)
     clear BK299
     clear HB
     have HO305:=n0_
     have BK299:=n1_
     have HB:=n2_
     clear n0_ n1_ n2_
     clear hb ho10
     refine hK.out _ _ ⟨(blk_cell BK299.out 0).trans rfl,(blk_cell BK299.out 1).trans rfl,(blk_cell BK299.out 2).trans rfl,(blk_cell BK299.out 3).trans rfl⟩ (fun hHeld => ?_)
     clear hK K
     refine norm_ (a':=?_) ?_ ?_
     rotate_left
     ·show Act.put _ (some 10) _ = _
      simp only [Act.put,sA_,s0_,s1_,i64_w,i32_w]
      rfl
     refine one_ (i:=1) (N:=some 8) #[true,true,true,true,false,false] rfl rfl (by kernel_rfl) (by decide) (fun K hK => ?_)
     refine goes_ Try.func30 (by kernel_rfl) rfl #[.slice A0 l0.length c0] (by rfl) rfl rfl (by (try simp only [List.map_toArray,List.map_cons,List.map_nil]);rfl) ?_
     with_reducible refine (slices_Clone_impl_Entry.calls _ _ l0 t300 _ ?side1 ?side2 A3.out).mono ?_
     (case side1 => repeat (exact (Kd.C_below HR0.out HB.out)))
     (case side2 => exact HC0.out)
     rintro e w11 ⟨v301,rfl,ho0,hb⟩
     refine ⟨_,rfl, ?_⟩
     have n0_:=Aside0.mk (Kd.R_elder' (by exact HO305.out) (Kd.R_base ho0) hb)
     have n1_:=Aside0.mk (Kd.R_lower (Kd.R_newB (Kd.R_new' ho0 (Kd.R_lt (by exact HO305.out))) (g:=gb299) (o := .cells #[.int .i64 a1_0, .string a1_1, .bool a1_2, .int .i64 a1_3] 52 (0,0)) (by exact BK299.out)) (below_size (by exact HB.out)))
     have n2_:=Aside0.mk (blk_below (g:=gb299) (o := .cells #[.int .i64 a1_0, .string a1_1, .bool a1_2, .int .i64 a1_3] 52 (0,0)) (by exact BK299.out) hb)
     have n3_:=Aside0.mk (below_step (by exact HB.out) hb)
     clear HO305
     clear BK299
     clear HB
     have HO305:=n0_
     have HO302:=n1_
     have BK299:=n2_
     have HB:=n3_
     clear n0_ n1_ n2_ n3_
     (try clear hb)
     (skip)
     (skip)
     (skip)
     (try clear ho0)
     refine hK.out _ _ ⟨(blk_cell BK299.out 0).trans rfl,(blk_cell BK299.out 1).trans rfl,(blk_cell BK299.out 2).trans rfl,(blk_cell BK299.out 3).trans rfl⟩ (fun hHeld => ?_)
     clear hK K
     refine norm_ (a':=?_) ?_ ?_
     rotate_left
     ·show Act.put _ (some 8) _ = _
      simp only [Act.put,sA_,s0_,s1_,i64_w,i32_w]
      rfl
     exact norm_ (by simp only [putAll,Act.put,sA_,s0_,s1_]) (hCont (v301,v304) _ ⟨hHeld,(by exact Kd.R_mono HO302.out (fun _ hk => ⟨hk.1.2,hk.2⟩)),(by exact Kd.R_mono HO305.out (fun _ hk => ⟨hk.2,hk.1.2⟩)),(by exact BK299.out),(by exact HB.out)⟩)
   rintro ⟨v301,v304⟩ w12 ⟨hS_,h0_,h1_,h2_,h3_⟩
   have n0_ : Aside0 (Kd.R k52 52 w12 w.heap.size (fun k_ => some k_ ≠ (v304 : Value).ownBlock ∧ k_ ≠ gb299) v301 t300):=⟨h0_⟩
   have n1_ : Aside0 (Kd.R k52 52 w12 w.heap.size (fun k_ => some k_ ≠ (v301 : Value).ownBlock ∧ k_ ≠ gb299) v304 y303):=⟨h1_⟩
   have n2_ : Aside0 (w12.heap[gb299]? = some (.cells #[.int .i64 a1_0, .string a1_1, .bool a1_2, .int .i64 a1_3] 52 (0,0))):=⟨h2_⟩
   have n3_ : Aside0 (Below w.heap.size w w12):=⟨h3_⟩
   clear BK299
   clear HB
   clear h0_ h1_ h2_ h3_
   have HO302:=n0_
   have HO305:=n1_
   have BK299:=n2_
   have HB:=n3_
   clear n0_ n1_ n2_ n3_
   have hHeld : w12.cell? ⟨gb299,0,none⟩ = some (.int .i64 a1_0) ∧ w12.cell? ⟨gb299,1,none⟩ = some (.string a1_1) ∧ w12.cell? ⟨gb299,2,none⟩ = some (.bool a1_2) ∧ w12.cell? ⟨gb299,3,none⟩ = some (.int .i64 a1_3):=hS_
   obtain ⟨Ao14,co14,eo14⟩ := Kd.R_slice HO305.out
   (subst eo14)
   refine norm_ (a':=?_) ?_ ?_
   rotate_left
   ·simp only [putAll,Act.put,sA_,s0_,s1_]
    rfl
   refine one_ (i:=4) (N:=some 11) #[true,true,true,true,true,false] rfl rfl (by kernel_rfl) (by decide) (fun K hK => ?_)
   refine Kd.R_append_rows_step k52 (w0:=w) w.heap.size (by rfl) (.tmp 8) (.tmp 10) 24 52 (.agg #[(.int .i64 0),(.string ⟨#[]⟩),(.bool false),(.int .i64 0)]) 40 rfl Try.underlying24 info52 rfl (by decide) (by omega) v301 t300 y303 _ _ _ (fun k_ => some k_ ≠ (.slice Ao14 y303.length co14 : Value).ownBlock ∧ k_ ≠ gb299) (fun _ => False) rfl rfl ?aO ?aR (fun _ _ h => h) (fun _ h => h.elim) ?aF ?aB ?aS ?aL ?_
   (case aR => repeat (exact (Kd.R_reads' HO305.out).2.2))
   (case aB => exact (by exact HB.out))
   (case aF => exact (fun k_ hk => ⟨Kd.fresh' (Kd.R_lt (by exact HO305.out)) k_ hk,Kd.freshB (g:=gb299) (o := .cells #[.int .i64 a1_0, .string a1_1, .bool a1_2, .int .i64 a1_3] 52 (0,0)) (by exact BK299.out) k_ hk⟩))
   (case aO => exact (by exact HO302.out))
   (case aS => exact (below_size (by exact HB.out)))
   (case aL => have:=LMc4.out;omega)
   intro v307 w13 ho hb hg hat
   rw [← Ny306.out] at ho
   have n0_:=Aside0.mk (blk_grown (g:=gb299) (o := .cells #[.int .i64 a1_0, .string a1_1, .bool a1_2, .int .i64 a1_3] 52 (0,0)) (by exact BK299.out) hg (Kd.R_away HO302.out (fun _ hk => hk.2)))
   have n1_:=Aside0.mk (Kd.R_after (ok:=(fun k_ => k_ ≠ gb299)) (by exact Kd.R_mono HO305.out (fun _ hk => ⟨hk.2,hk.1⟩)) hg hat)
   have n2_:=Aside0.mk (hb)
   have n3_:=Aside0.mk (ho)
   clear BK299
   clear HO305
   clear HB
   clear HO302
   have BK299:=n0_
   have HO305:=n1_
   have HB:=n2_
   have HO308:=n3_
   clear n0_ n1_ n2_ n3_
   clear ho hb hg hat
   refine hK.out _ _ ⟨(blk_cell BK299.out 0).trans rfl,(blk_cell BK299.out 1).trans rfl,(blk_cell BK299.out 2).trans rfl,(blk_cell BK299.out 3).trans rfl⟩ (fun hHeld => ?_)
   clear hK K
   refine norm_ (a':=?_) ?_ ?_
   rotate_left
   ·show Act.put _ (some 11) _ = _
    simp only [Act.put,sA_,s0_,s1_,i64_w,i32_w]
    rfl
   refine pure_ (i:=5) (N:=some 6) (v:=?_) (a':=?_) #[true,true,true,true,true,true] rfl rfl (by kernel_rfl) (fun _ _ _ h => h) (Or.inl ⟨by rfl, ?_⟩) ?_ ?_
   rotate_left
   ·intro w'
    go_simp
    with_reducible rfl
   rotate_left
   ·simp only [Act.put,sA_,s0_,s1_,i64_w,i32_w]
    rfl
   refine done_ (by kernel_rfl) ?_
   obtain ⟨Ao15,co15,eo15⟩ := Kd.R_slice HO308.out
   subst eo15
   try go_wp2_with (((with_reducible refine gate_callee (f:=11) rfl ?_);refine goesL_ (some 13) rfl rfl Try.func11 (by kernel_rfl) rfl #[.slice Ao15 y306.length co15] rfl (by (try simp only [List.map_toArray,List.map_cons,List.map_nil]);rfl) ?_;(with_reducible refine (impl_IsValidFile.calls k _ _ y306 true _ ?side1 ?side2 A5.out).mono ?_);(case side1 => repeat (exact (Kd.R_reads' HO308.out).2.2));(case side2 => exact (Kd.R_reads' HO308.out).2.1);rintro e w16 ⟨rfl,hb⟩;refine ⟨_,rfl, ?_⟩;have n0_:=Aside0.mk (Kd.R_below (by exact HO305.out) hb);have n1_:=Aside0.mk (Kd.R_below (by exact HO308.out) hb);have n2_:=Aside0.mk (blk_below (g:=gb299) (o := .cells #[.int .i64 a1_0, .string a1_1, .bool a1_2, .int .i64 a1_3] 52 (0,0)) (by exact BK299.out) hb);have n3_:=Aside0.mk (below_step (by exact HB.out) hb);clear HO305;clear HO308;clear BK299;clear HB;have HO305:=n0_;have HO308:=n1_;have BK299:=n2_;have HB:=n3_;clear n0_ n1_ n2_ n3_;(try clear hb)))
   go_ret2
   exact ⟨_,by rfl,by exact Kd.R_mono HO308.out (fun _ hk => trivial),by exact HB.out⟩
  ·replace c6:=Bool.eq_false_iff.mpr c6
   subst c6
   have H1 : (some (([] : List (S52)),false)) = some (r1,r2):=by rw [if_neg (show ¬ (false = true) by decide)] at H;exact H
   clear H
   have H:=H1
   clear H1
   simp only [Option.some.injEq,Prod.mk.injEq] at H
   obtain ⟨rfl,rfl⟩ := H
   go_enter Try.func31,Try.ntmps31
   try go_wp2_with (((with_reducible refine gate_dst (N:=3) rfl ?_);refine box_event ?hg (N:=3) ?hd (cs:=#[.int .i64 a1_0, .string a1_1, .bool a1_2, .int .i64 a1_3]) (t:=52) ?hr ?_;(case hd => rfl);(case hg => rfl);(case hr => (go_simp;done));intro gb299 hg w17 hbox hb;have n0_:=Aside0.mk (below_step (by exact HB.out) hb);have n1_:=Aside0.mk (hbox);have n2_:=Aside0.mk ((by rw [hg];exact (below_size (by exact HB.out)) : w.heap.size ≤ gb299));have n3_:=Aside0.mk ((by rw [hg];exact (below_size (by exact HB.out)) : w.heap.size ≤ gb299));clear HB;have HB:=n0_;have BK299:=n1_;have GW299:=n2_;have GE299:=n3_;clear n0_ n1_ n2_ n3_;clear hb hbox hg))
   have n0_:=Aside0.mk (blk_drew BK299.out)
   have n1_:=Aside0.mk (below_drew1 HB.out)
   clear BK299
   clear HB
   have BK299:=n0_
   have HB:=n1_
   clear n0_ n1_
   refine start_ (n:=6) (S:=fun w' => w'.cell? ⟨gb299,0,none⟩ = some (.int .i64 a1_0) ∧ w'.cell? ⟨gb299,1,none⟩ = some (.string a1_1) ∧ w'.cell? ⟨gb299,2,none⟩ = some (.bool a1_2) ∧ w'.cell? ⟨gb299,3,none⟩ = some (.int .i64 a1_3)) (ds := []) #[false,false,false,false,false,false] (by kernel_rfl) rfl rfl ⟨(blk_cell BK299.out 0).trans rfl,(blk_cell BK299.out 1).trans rfl,(blk_cell BK299.out 2).trans rfl,(blk_cell BK299.out 3).trans rfl⟩ (fun hHeld => ?_)
   generalize w17.drew = w18 at BK299 HB hHeld ⊢
   refine pure_ (i:=0) (N:=some 7) (v:=?_) (a':=?_) #[true,false,false,false,false,false] rfl rfl (by kernel_rfl) (fun _ _ _ h => h) (Or.inl ⟨by rfl, ?_⟩) ?_ ?_
   rotate_left
   ·intro w'
    go_simp
    with_reducible rfl
   rotate_left
   ·simp only [Act.put,sA_,s0_,s1_,i64_w,i32_w]
    rfl
   refine take_ (i:=2) (N:=some 9) (v:=?_) (a':=?_) #[true,false,true,false,false,false] rfl rfl (by kernel_rfl) (fun _ _ _ h => h) (Or.inl ⟨by rfl, ?_⟩) hHeld ?_ ?_
   rotate_left
   ·rintro w' ⟨s0,s1,s2,s3⟩
    go_simp
    with_reducible rfl
   rotate_left
   ·simp only [Act.put,sA_,s0_,s1_,i64_w,i32_w]
    rfl
   refine join_ (σ:=Value × Value) 2 #[true,true,true,true,false,false] (fun s_ => [(8,s_.1),(10,s_.2)]) (fun s_ w' => (w'.cell? ⟨gb299,0,none⟩ = some (.int .i64 a1_0) ∧ w'.cell? ⟨gb299,1,none⟩ = some (.string a1_1) ∧ w'.cell? ⟨gb299,2,none⟩ = some (.bool a1_2) ∧ w'.cell? ⟨gb299,3,none⟩ = some (.int .i64 a1_3)) ∧ (Kd.R k52 52 w' w.heap.size (fun k_ => some k_ ≠ (s_.2 : Value).ownBlock ∧ k_ ≠ gb299) s_.1 t300) ∧ (Kd.R k52 52 w' w.heap.size (fun k_ => some k_ ≠ (s_.1 : Value).ownBlock ∧ k_ ≠ gb299) s_.2 y303) ∧ (w'.heap[gb299]? = some (.cells #[.int .i64 a1_0, .string a1_1, .bool a1_2, .int .i64 a1_3] 52 (0,0))) ∧ (Below w.heap.size w w')) ?_ ?_
   rotate_left
   ·intro hCont
    refine two_ (i:=1) (j:=3) (Ni:=some 8) (Nj:=some 10) #[true,true,true,false,false,false] #[true,false,true,true,false,false] rfl rfl rfl rfl (by kernel_rfl) (by decide) (by decide) (fun K hK => ?_) (fun K hK => ?_)
    ·skip
     refine goes_ Try.func30 (by kernel_rfl) rfl #[.slice A0 l0.length c0] (by rfl) rfl rfl (by (try simp only [List.map_toArray,List.map_cons,List.map_nil]);rfl) ?_
     with_reducible refine (slices_Clone_impl_Entry.calls _ _ l0 t300 _ ?side1 ?side2 A3.out).mono ?_
     (case side1 => repeat (exact (Kd.C_below HR0.out HB.out)))
     (case side2 => exact HC0.out)
     rintro e w19 ⟨v301,rfl,ho0,hb⟩
     refine ⟨_,rfl, ?_⟩
     have n0_:=Aside0.mk (Kd.R_lower (Kd.R_newB ho0 (g:=gb299) (o := .cells #[.int .i64 a1_0, .string a1_1, .bool a1_2, .int .i64 a1_3] 52 (0,0)) (by exact BK299.out)) (below_size (by exact HB.out)))
     have n1_:=Aside0.mk (blk_below (g:=gb299) (o := .cells #[.int .i64 a1_0, .string a1_1, .bool a1_2, .int .i64 a1_3] 52 (0,0)) (by exact BK299.out) hb)
     have n2_:=Aside0.mk (below_step (by exact HB.out) hb)
     clear BK299
     clear HB
     have HO302:=n0_
     have BK299:=n1_
     have HB:=n2_
     clear n0_ n1_ n2_
     (try clear hb)
     (skip)
     (skip)
     (skip)
     (try clear ho0)
     refine hK.out _ _ ⟨(blk_cell BK299.out 0).trans rfl,(blk_cell BK299.out 1).trans rfl,(blk_cell BK299.out 2).trans rfl,(blk_cell BK299.out 3).trans rfl⟩ (fun hHeld => ?_)
     clear hK K
     refine norm_ (a':=?_) ?_ ?_
     rotate_left
     ·show Act.put _ (some 8) _ = _
      simp only [Act.put,sA_,s0_,s1_,i64_w,i32_w]
      rfl
     refine one_ (i:=3) (N:=some 10) #[true,true,true,true,false,false] rfl rfl (by kernel_rfl) (by decide) (fun K hK => ?_)
     refine Kd.R_lit_step k52 _ 52 ?hg (N:=10) ?hd (xs:=([(⟨a1_0,a1_1,a1_2,a1_3⟩ : S52)] : List (S52))) (inner := [.int .i64 a1_0, .string a1_1, .bool a1_2, .int .i64 a1_3]) (ok:=fun _ => True) (okp:=fun _ => True) ?hr ?hp (fun _ hk => hk) trivial (Below.refl _ _) (Nat.le_refl _) (by simp) ?_;(case hd => rfl);(case hg => rfl);(case hr => (go_simp;done));(case hp => exact (Reps.c4 (show Kd.M k52 _ _ _ (⟨a1_0,a1_1,a1_2,a1_3⟩ : S52) [.int .i64 a1_0, .string a1_1, .bool a1_2, .int .i64 a1_3] from (k52_mkM _ _ _ (⟨a1_0,a1_1,a1_2,a1_3⟩ : S52) )) (Reps.none _ _)))
     intro v304 w20 ho21 hb hg_ hnew_
     clear hg_ hnew_
     (rw [← Ny303.out] at ho21)
     have n0_:=Aside0.mk (Kd.R_elder' (by exact HO302.out) (Kd.R_base ho21) hb)
     have n1_:=Aside0.mk (Kd.R_lower (Kd.R_newB (Kd.R_new' ho21 (Kd.R_lt (by exact HO302.out))) (g:=gb299) (o := .cells #[.int .i64 a1_0, .string a1_1, .bool a1_2, .int .i64 a1_3] 52 (0,0)) (by exact BK299.out)) (below_size (by exact HB.out)))
     have n2_:=Aside0.mk (blk_below (g:=gb299) (o := .cells #[.int .i64 a1_0, .string a1_1, .bool a1_2, .int .i64 a1_3] 52 (0,0)) (by exact BK299.out) hb)
     have n3_:=Aside0.mk (below_step (by exact HB.out) hb)
     clear HO302
     clear BK299
     clear HB
     have HO302:=n0_
     have HO305:=n1_
     have BK299:=n2_
     have HB:=n3_
     clear n0_ n1_ n2_ n3_
     clear hb ho21
     refine hK.out _ _ ⟨(blk_cell BK299.out 0).trans rfl,(blk_cell BK299.out 1).trans rfl,(blk_cell BK299.out 2).trans rfl,(blk_cell BK299.out 3).trans rfl⟩ (fun hHeld => ?_)
     clear hK K
     refine norm_ (a':=?_) ?_ ?_
     rotate_left
     ·show Act.put _ (some 10) _ = _
      simp only [Act.put,sA_,s0_,s1_,i64_w,i32_w]
      rfl
     exact norm_ (by simp only [putAll,Act.put,sA_,s0_,s1_]) (hCont (v301,v304) _ ⟨hHeld,(by exact Kd.R_mono HO302.out (fun _ hk => ⟨hk.2,hk.1.2⟩)),(by exact Kd.R_mono HO305.out (fun _ hk => ⟨hk.1.2,hk.2⟩)),(by exact BK299.out),(by exact HB.out)⟩)
    ·skip
     refine Kd.R_lit_step k52 _ 52 ?hg (N:=10) ?hd (xs:=([(⟨a1_0,a1_1,a1_2,a1_3⟩ : S52)] : List (S52))) (inner := [.int .i64 a1_0, .string a1_1, .bool a1_2, .int .i64 a1_3]) (ok:=fun _ => True) (okp:=fun _ => True) ?hr ?hp (fun _ hk => hk) trivial (Below.refl _ _) (Nat.le_refl _) (by simp) ?_;(case hd => rfl);(case hg => rfl);(case hr => (go_simp;done));(case hp => exact (Reps.c4 (show Kd.M k52 _ _ _ (⟨a1_0,a1_1,a1_2,a1_3⟩ : S52) [.int .i64 a1_0, .string a1_1, .bool a1_2, .int .i64 a1_3] from (k52_mkM _ _ _ (⟨a1_0,a1_1,a1_2,a1_3⟩ : S52) )) (Reps.none _ _)))
     intro v304 w19 ho20 hb hg_ hnew_
     clear hg_ hnew_
     (rw [← Ny303.out] at ho20)
     have n0_:=Aside0.mk (Kd.R_lower (Kd.R_newB ho20 (g:=gb299) (o := .cells #[.int .i64 a1_0, .string a1_1, .bool a1_2, .int .i64 a1_3] 52 (0,0)) (by exact BK299.out)) (below_size (by exact HB.out)))
     have n1_:=Aside0.mk (blk_below (g:=gb299) (o := .cells #[.int .i64 a1_0, .string a1_1, .bool a1_2, .int .i64 a1_3] 52 (0,0)) (by exact BK299.out) hb)
     have n2_:=Aside0.mk (below_step (by exact HB.out) hb)
     clear BK299
     clear HB
     have HO305:=n0_
     have BK299:=n1_
     have HB:=n2_
     clear n0_ n1_ n2_
     clear hb ho20
     refine hK.out _ _ ⟨(blk_cell BK299.out 0).trans rfl,(blk_cell BK299.out 1).trans rfl,(blk_cell BK299.out 2).trans rfl,(blk_cell BK299.out 3).trans rfl⟩ (fun hHeld => ?_)
     clear hK K
     refine norm_ (a':=?_) ?_ ?_
     rotate_left
     ·show Act.put _ (some 10) _ = _
      simp only [Act.put,sA_,s0_,s1_,i64_w,i32_w]
      rfl
     refine one_ (i:=1) (N:=some 8) #[true,true,true,true,false,false] rfl rfl (by kernel_rfl) (by decide) (fun K hK => ?_)
     refine goes_ Try.func30 (by kernel_rfl) rfl #[.slice A0 l0.length c0] (by rfl) rfl rfl (by (try simp only [List.map_toArray,List.map_cons,List.map_nil]);rfl) ?_
     with_reducible refine (slices_Clone_impl_Entry.calls _ _ l0 t300 _ ?side1 ?side2 A3.out).mono ?_
     (case side1 => repeat (exact (Kd.C_below HR0.out HB.out)))
     (case side2 => exact HC0.out)
     rintro e w21 ⟨v301,rfl,ho0,hb⟩
     refine ⟨_,rfl, ?_⟩
     have n0_:=Aside0.mk (Kd.R_elder' (by exact HO305.out) (Kd.R_base ho0) hb)
     have n1_:=Aside0.mk (Kd.R_lower (Kd.R_newB (Kd.R_new' ho0 (Kd.R_lt (by exact HO305.out))) (g:=gb299) (o := .cells #[.int .i64 a1_0, .string a1_1, .bool a1_2, .int .i64 a1_3] 52 (0,0)) (by exact BK299.out)) (below_size (by exact HB.out)))
     have n2_:=Aside0.mk (blk_below (g:=gb299) (o := .cells #[.int .i64 a1_0, .string a1_1, .bool a1_2, .int .i64 a1_3] 52 (0,0)) (by exact BK299.out) hb)
     have n3_:=Aside0.mk (below_step (by exact HB.out) hb)
     clear HO305
     clear BK299
     clear HB
     have HO305:=n0_
     have HO302:=n1_
     have BK299:=n2_
     have HB:=n3_
     clear n0_ n1_ n2_ n3_
     (try clear hb)
     (skip)
     (skip)
     (skip)
     (try clear ho0)
     refine hK.out _ _ ⟨(blk_cell BK299.out 0).trans rfl,(blk_cell BK299.out 1).trans rfl,(blk_cell BK299.out 2).trans rfl,(blk_cell BK299.out 3).trans rfl⟩ (fun hHeld => ?_)
     clear hK K
     refine norm_ (a':=?_) ?_ ?_
     rotate_left
     ·show Act.put _ (some 8) _ = _
      simp only [Act.put,sA_,s0_,s1_,i64_w,i32_w]
      rfl
     exact norm_ (by simp only [putAll,Act.put,sA_,s0_,s1_]) (hCont (v301,v304) _ ⟨hHeld,(by exact Kd.R_mono HO302.out (fun _ hk => ⟨hk.1.2,hk.2⟩)),(by exact Kd.R_mono HO305.out (fun _ hk => ⟨hk.2,hk.1.2⟩)),(by exact BK299.out),(by exact HB.out)⟩)
   rintro ⟨v301,v304⟩ w22 ⟨hS_,h0_,h1_,h2_,h3_⟩
   have n0_ : Aside0 (Kd.R k52 52 w22 w.heap.size (fun k_ => some k_ ≠ (v304 : Value).ownBlock ∧ k_ ≠ gb299) v301 t300):=⟨h0_⟩
   have n1_ : Aside0 (Kd.R k52 52 w22 w.heap.size (fun k_ => some k_ ≠ (v301 : Value).ownBlock ∧ k_ ≠ gb299) v304 y303):=⟨h1_⟩
   have n2_ : Aside0 (w22.heap[gb299]? = some (.cells #[.int .i64 a1_0, .string a1_1, .bool a1_2, .int .i64 a1_3] 52 (0,0))):=⟨h2_⟩
   have n3_ : Aside0 (Below w.heap.size w w22):=⟨h3_⟩
   clear BK299
   clear HB
   clear h0_ h1_ h2_ h3_
   have HO302:=n0_
   have HO305:=n1_
   have BK299:=n2_
   have HB:=n3_
   clear n0_ n1_ n2_ n3_
   have hHeld : w22.cell? ⟨gb299,0,none⟩ = some (.int .i64 a1_0) ∧ w22.cell? ⟨gb299,1,none⟩ = some (.string a1_1) ∧ w22.cell? ⟨gb299,2,none⟩ = some (.bool a1_2) ∧ w22.cell? ⟨gb299,3,none⟩ = some (.int .i64 a1_3):=hS_
   obtain ⟨Ao24,co24,eo24⟩ := Kd.R_slice HO305.out
   (subst eo24)
   refine norm_ (a':=?_) ?_ ?_
   rotate_left
   ·simp only [putAll,Act.put,sA_,s0_,s1_]
    rfl
   refine one_ (i:=4) (N:=some 11) #[true,true,true,true,true,false] rfl rfl (by kernel_rfl) (by decide) (fun K hK => ?_)
   refine Kd.R_append_rows_step k52 (w0:=w) w.heap.size (by rfl) (.tmp 8) (.tmp 10) 24 52 (.agg #[(.int .i64 0),(.string ⟨#[]⟩),(.bool false),(.int .i64 0)]) 40 rfl Try.underlying24 info52 rfl (by decide) (by omega) v301 t300 y303 _ _ _ (fun k_ => some k_ ≠ (.slice Ao24 y303.length co24 : Value).ownBlock ∧ k_ ≠ gb299) (fun _ => False) rfl rfl ?aO ?aR (fun _ _ h => h) (fun _ h => h.elim) ?aF ?aB ?aS ?aL ?_
   (case aR => repeat (exact (Kd.R_reads' HO305.out).2.2))
   (case aB => exact (by exact HB.out))
   (case aF => exact (fun k_ hk => ⟨Kd.fresh' (Kd.R_lt (by exact HO305.out)) k_ hk,Kd.freshB (g:=gb299) (o := .cells #[.int .i64 a1_0, .string a1_1, .bool a1_2, .int .i64 a1_3] 52 (0,0)) (by exact BK299.out) k_ hk⟩))
   (case aO => exact (by exact HO302.out))
   (case aS => exact (below_size (by exact HB.out)))
   (case aL => have:=LMc4.out;omega)
   intro v307 w23 ho hb hg hat
   rw [← Ny306.out] at ho
   have n0_:=Aside0.mk (blk_grown (g:=gb299) (o := .cells #[.int .i64 a1_0, .string a1_1, .bool a1_2, .int .i64 a1_3] 52 (0,0)) (by exact BK299.out) hg (Kd.R_away HO302.out (fun _ hk => hk.2)))
   have n1_:=Aside0.mk (Kd.R_after (ok:=(fun k_ => k_ ≠ gb299)) (by exact Kd.R_mono HO305.out (fun _ hk => ⟨hk.2,hk.1⟩)) hg hat)
   have n2_:=Aside0.mk (hb)
   have n3_:=Aside0.mk (ho)
   clear BK299
   clear HO305
   clear HB
   clear HO302
   have BK299:=n0_
   have HO305:=n1_
   have HB:=n2_
   have HO308:=n3_
   clear n0_ n1_ n2_ n3_
   clear ho hb hg hat
   refine hK.out _ _ ⟨(blk_cell BK299.out 0).trans rfl,(blk_cell BK299.out 1).trans rfl,(blk_cell BK299.out 2).trans rfl,(blk_cell BK299.out 3).trans rfl⟩ (fun hHeld => ?_)
   clear hK K
   refine norm_ (a':=?_) ?_ ?_
   rotate_left
   ·show Act.put _ (some 11) _ = _
    simp only [Act.put,sA_,s0_,s1_,i64_w,i32_w]
    rfl
   refine pure_ (i:=5) (N:=some 6) (v:=?_) (a':=?_) #[true,true,true,true,true,true] rfl rfl (by kernel_rfl) (fun _ _ _ h => h) (Or.inl ⟨by rfl, ?_⟩) ?_ ?_
   rotate_left
   ·intro w'
    go_simp
    with_reducible rfl
   rotate_left
   ·simp only [Act.put,sA_,s0_,s1_,i64_w,i32_w]
    rfl
   refine done_ (by kernel_rfl) ?_
   obtain ⟨Ao25,co25,eo25⟩ := Kd.R_slice HO308.out
   subst eo25
   try go_wp2_with (((with_reducible refine gate_callee (f:=11) rfl ?_);refine goesL_ (some 13) rfl rfl Try.func11 (by kernel_rfl) rfl #[.slice Ao25 y306.length co25] rfl (by (try simp only [List.map_toArray,List.map_cons,List.map_nil]);rfl) ?_;(with_reducible refine (impl_IsValidFile.calls k _ _ y306 false _ ?side1 ?side2 A5.out).mono ?_);(case side1 => repeat (exact (Kd.R_reads' HO308.out).2.2));(case side2 => exact (Kd.R_reads' HO308.out).2.1);rintro e w26 ⟨rfl,hb⟩;refine ⟨_,rfl, ?_⟩;have n0_:=Aside0.mk (Kd.R_below (by exact HO305.out) hb);have n1_:=Aside0.mk (Kd.R_below (by exact HO308.out) hb);have n2_:=Aside0.mk (blk_below (g:=gb299) (o := .cells #[.int .i64 a1_0, .string a1_1, .bool a1_2, .int .i64 a1_3] 52 (0,0)) (by exact BK299.out) hb);have n3_:=Aside0.mk (below_step (by exact HB.out) hb);clear HO305;clear HO308;clear BK299;clear HB;have HO305:=n0_;have HO308:=n1_;have BK299:=n2_;have HB:=n3_;clear n0_ n1_ n2_ n3_;(try clear hb)))
   go_ret2
   exact ⟨_,by rfl,by exact Kd.R_nil _ _ _ _ _,by exact HB.out⟩
 ·rw [if_neg c4] at H
  exact absurd H (by simp)

/-! ### impl_ReleaseAll: function 7 -/
def impl_ReleaseAll.f (k : Nat) (l0 : List (S52)) (a1 : ByteArray) (a2 : Int) : Option ((List (S52)) × Bool):=(impl_isFileAt.f k l0 a1 a2).bind fun t310 => (if t310 = true then ((impl_holdsOn.f k l0 a1 240).bind fun t311 => (if t311 = 0 then ((slices_Clone_impl_Entry.f l0).bind fun t312 => (some (t312,true))) else ((impl_AddEntry.f k l0 a2 a1 false t311).bind fun bt315 => (some (bt315.1,bt315.2))))) else (some (([] : List (S52)),false)))
theorem impl_ReleaseAll.mono : ∀ a0 a1 a2 k,LeO (impl_ReleaseAll.f k a0 a1 a2) (impl_ReleaseAll.f (k + 1) a0 a1 a2):=by
 intro a0 a1 a2 k
 unfold impl_ReleaseAll.f
 repeat' first
   | (with_reducible exact impl_AddEntry.mono _ _ _ _ _ _)
   | (with_reducible exact impl_holdsOn.mono _ _ _ _)
   | (with_reducible exact impl_isFileAt.mono _ _ _ _)
   | (with_reducible exact LeO.refl _)
   | (with_reducible exact LeO.none _)
   | (with_reducible refine LeO.ite ?_ ?_)
   | (with_reducible refine LeO.bind ?_ (fun _ => ?_))
   | exact impl_AddEntry.mono _ _ _ _ _ _
   | exact impl_holdsOn.mono _ _ _ _
   | exact impl_isFileAt.mono _ _ _ _
   | exact LeO.none _
   | refine LeO.ite ?_ ?_
   | refine LeO.bind ?_ (fun _ => ?_)
set_option maxHeartbeats 8000000 in
set_option maxRecDepth 100000 in
theorem impl_ReleaseAll.calls (k : Nat) (A0 : Option Addr) (c0 : Nat) (l0 : List (S52)) (a1 : ByteArray) (a2 : Int) (r1 : List (S52)) (r2 : Bool) (w : World) (hr0 : Kd.C k52 w A0 l0.length l0) (hc0 : l0.length ≤ c0) (h : impl_ReleaseAll.f k l0 a1 a2 = some (r1,r2)) :
  Calls Try.prog 7 #[.slice A0 l0.length c0, .string a1, .int .i64 a2] w fun e w' => ∃ v0_ : Value,e = .returned (.tuple #[v0_, .bool r2]) ∧ Kd.R k52 52 w' w.heap.size (fun _ => True) v0_ r1 ∧ Below w.heap.size w w':=by
 have hu52:=Try.underlying52
 have HR0:=Aside0.mk hr0
 have HC0:=Aside0.mk hc0
 clear hr0 hc0
 have HB:=Aside0.mk (Below.refl w.heap.size w)
 have H : ((impl_isFileAt.f k l0 a1 a2).bind fun t310 => (if t310 = true then ((impl_holdsOn.f k l0 a1 240).bind fun t311 => (if t311 = 0 then ((slices_Clone_impl_Entry.f l0).bind fun t312 => (some (t312,true))) else ((impl_AddEntry.f k l0 a2 a1 false t311).bind fun bt315 => (some (bt315.1,bt315.2))))) else (some (([] : List (S52)),false)))) = some (r1,r2):=h
 clear h
 replace H:=Option.bind_eq_some_iff.mp H
 obtain ⟨t310,A40,H⟩ := H
 replace H : (if t310 = true then ((impl_holdsOn.f k l0 a1 240).bind fun t311 => (if t311 = 0 then ((slices_Clone_impl_Entry.f l0).bind fun t312 => (some (t312,true))) else ((impl_AddEntry.f k l0 a2 a1 false t311).bind fun bt315 => (some (bt315.1,bt315.2))))) else (some (([] : List (S52)),false))) = some (r1,r2):=H
 have A4:=Aside0.mk A40
 clear A40
 by_cases c5 : t310 = true
 ·subst c5
  have H1 : ((impl_holdsOn.f k l0 a1 240).bind fun t311 => (if t311 = 0 then ((slices_Clone_impl_Entry.f l0).bind fun t312 => (some (t312,true))) else ((impl_AddEntry.f k l0 a2 a1 false t311).bind fun bt315 => (some (bt315.1,bt315.2))))) = some (r1,r2):=by rw [if_pos rfl] at H;exact H
  clear H
  have H:=H1
  clear H1
  replace H:=Option.bind_eq_some_iff.mp H
  obtain ⟨t311,A60,H⟩ := H
  replace H : (if t311 = 0 then ((slices_Clone_impl_Entry.f l0).bind fun t312 => (some (t312,true))) else ((impl_AddEntry.f k l0 a2 a1 false t311).bind fun bt315 => (some (bt315.1,bt315.2)))) = some (r1,r2):=H
  have A6:=Aside0.mk A60
  clear A60
  by_cases c7 : t311 = 0
  ·rw [if_pos c7] at H
   have c7b0 : (t311 == 0) = true:=beq_iff_eq.mpr c7
   have c7b1 : (t311 != 0) = false:=bne_eq_false_iff_eq.mpr c7
   clear c7
   replace H:=Option.bind_eq_some_iff.mp H
   obtain ⟨t312,A80,H⟩ := H
   replace H : (some (t312,true)) = some (r1,r2):=H
   have A8:=Aside0.mk A80
   clear A80
   simp only [Option.some.injEq,Prod.mk.injEq] at H
   obtain ⟨rfl,rfl⟩ := H
   go_enter Try.func7,Try.ntmps7
   go_wp2_with (first | ((with_reducible refine gate_callee (f:=28) rfl ?_);refine goesL_ (some 12) rfl rfl Try.func28 (by kernel_rfl) rfl #[.slice A0 l0.length c0, .string a1, .int .i64 a2] rfl (by (try simp only [List.map_toArray,List.map_cons,List.map_nil]);rfl) ?_;(with_reducible refine (impl_isFileAt.calls k _ _ l0 a1 a2 true _ ?side1 ?side2 A4.out).mono ?_);(case side1 => repeat (exact HR0.out));(case side2 => exact HC0.out);rintro e w9 ⟨rfl,hb⟩;refine ⟨_,rfl, ?_⟩;have n0_:=Aside0.mk (below_step (by exact HB.out) hb);clear HB;have HB:=n0_;clear n0_;(try clear hb)) | ((with_reducible refine gate_callee (f:=29) rfl ?_);refine goesL_ (some 16) rfl rfl Try.func29 (by kernel_rfl) rfl #[.slice A0 l0.length c0, .string a1, .int .i64 240] rfl (by (try simp only [List.map_toArray,List.map_cons,List.map_nil]);rfl) ?_;(with_reducible refine (impl_holdsOn.calls k _ _ l0 a1 240 t311 _ ?side1 ?side2 A6.out).mono ?_);(case side1 => repeat (exact (Kd.C_below HR0.out HB.out)));(case side2 => exact HC0.out);rintro e w10 ⟨rfl,hb⟩;refine ⟨_,rfl, ?_⟩;have n0_:=Aside0.mk (below_step (by exact HB.out) hb);clear HB;have HB:=n0_;clear n0_;(try clear hb)) | ((with_reducible refine gate_callee (f:=30) rfl ?_);refine goesL_ (some 20) rfl rfl Try.func30 (by kernel_rfl) rfl #[.slice A0 l0.length c0] rfl (by (try simp only [List.map_toArray,List.map_cons,List.map_nil]);rfl) ?_;(with_reducible refine (slices_Clone_impl_Entry.calls _ _ l0 t312 _ ?side1 ?side2 A8.out).mono ?_);(case side1 => repeat (exact (Kd.C_below HR0.out HB.out)));(case side2 => exact HC0.out);rintro e w11 ⟨v313,rfl,ho0,hb⟩;refine ⟨_,rfl, ?_⟩;have n0_:=Aside0.mk (Kd.R_lower ho0 (below_size (by exact HB.out)));have n1_:=Aside0.mk (below_step (by exact HB.out) hb);clear HB;have HO314:=n0_;have HB:=n1_;clear n0_ n1_;(try clear hb);(try clear ho0)))
   go_ret2
   exact ⟨_,by rfl,by exact HO314.out,by exact HB.out⟩
  ·rw [if_neg c7] at H
   have c7b0 : (t311 == 0) = false:=beq_eq_false_iff_ne.mpr c7
   have c7b1 : (t311 != 0) = true:=bne_iff_ne.mpr c7
   replace H:=Option.bind_eq_some_iff.mp H
   obtain ⟨⟨t315,t318⟩,A120,H⟩ := H
   replace H : (some (t315,t318)) = some (r1,r2):=H
   have A12:=Aside0.mk A120
   clear A120
   simp only [Option.some.injEq,Prod.mk.injEq] at H
   obtain ⟨rfl,rfl⟩ := H
   go_enter Try.func7,Try.ntmps7
   go_wp2_with (first | ((with_reducible refine gate_callee (f:=28) rfl ?_);refine goesL_ (some 12) rfl rfl Try.func28 (by kernel_rfl) rfl #[.slice A0 l0.length c0, .string a1, .int .i64 a2] rfl (by (try simp only [List.map_toArray,List.map_cons,List.map_nil]);rfl) ?_;(with_reducible refine (impl_isFileAt.calls k _ _ l0 a1 a2 true _ ?side1 ?side2 A4.out).mono ?_);(case side1 => repeat (exact HR0.out));(case side2 => exact HC0.out);rintro e w13 ⟨rfl,hb⟩;refine ⟨_,rfl, ?_⟩;have n0_:=Aside0.mk (below_step (by exact HB.out) hb);clear HB;have HB:=n0_;clear n0_;(try clear hb)) | ((with_reducible refine gate_callee (f:=29) rfl ?_);refine goesL_ (some 16) rfl rfl Try.func29 (by kernel_rfl) rfl #[.slice A0 l0.length c0, .string a1, .int .i64 240] rfl (by (try simp only [List.map_toArray,List.map_cons,List.map_nil]);rfl) ?_;(with_reducible refine (impl_holdsOn.calls k _ _ l0 a1 240 t311 _ ?side1 ?side2 A6.out).mono ?_);(case side1 => repeat (exact (Kd.C_below HR0.out HB.out)));(case side2 => exact HC0.out);rintro e w14 ⟨rfl,hb⟩;refine ⟨_,rfl, ?_⟩;have n0_:=Aside0.mk (below_step (by exact HB.out) hb);clear HB;have HB:=n0_;clear n0_;(try clear hb)) | ((with_reducible refine gate_callee (f:=31) rfl ?_);refine goesL_ (some 26) rfl rfl Try.func31 (by kernel_rfl) rfl #[.slice A0 l0.length c0, .agg #[.int .i64 a2, .string a1, .bool false, .int .i64 t311]] rfl (by (try simp only [List.map_toArray,List.map_cons,List.map_nil]);rfl) ?_;(with_reducible refine (impl_AddEntry.calls k _ _ l0 a2 a1 false t311 t315 t318 _ ?side1 ?side2 A12.out).mono ?_);(case side1 => repeat (exact (Kd.C_below HR0.out HB.out)));(case side2 => exact HC0.out);rintro e w15 ⟨v316,rfl,ho0,hb⟩;refine ⟨_,rfl, ?_⟩;have n0_:=Aside0.mk (Kd.R_lower ho0 (below_size (by exact HB.out)));have n1_:=Aside0.mk (below_step (by exact HB.out) hb);clear HB;have HO317:=n0_;have HB:=n1_;clear n0_ n1_;(try clear hb);(try clear ho0)))
   go_ret2
   exact ⟨_,by rfl,by exact HO317.out,by exact HB.out⟩
 ·replace c5:=Bool.eq_false_iff.mpr c5
  subst c5
  have H1 : (some (([] : List (S52)),false)) = some (r1,r2):=by rw [if_neg (show ¬ (false = true) by decide)] at H;exact H
  clear H
  have H:=H1
  clear H1
  simp only [Option.some.injEq,Prod.mk.injEq] at H
  obtain ⟨rfl,rfl⟩ := H
  go_enter Try.func7,Try.ntmps7
  go_wp2_with (((with_reducible refine gate_callee (f:=28) rfl ?_);refine goesL_ (some 12) rfl rfl Try.func28 (by kernel_rfl) rfl #[.slice A0 l0.length c0, .string a1, .int .i64 a2] rfl (by (try simp only [List.map_toArray,List.map_cons,List.map_nil]);rfl) ?_;(with_reducible refine (impl_isFileAt.calls k _ _ l0 a1 a2 false _ ?side1 ?side2 A4.out).mono ?_);(case side1 => repeat (exact HR0.out));(case side2 => exact HC0.out);rintro e w16 ⟨rfl,hb⟩;refine ⟨_,rfl, ?_⟩;have n0_:=Aside0.mk (below_step (by exact HB.out) hb);clear HB;have HB:=n0_;clear n0_;(try clear hb)))
  go_ret2
  exact ⟨_,by rfl,by exact Kd.R_nil _ _ _ _ _,by exact HB.out⟩

/-! ### spec_l2Seven: function 52 -/
def spec_l2Seven.l0 : Nat → ByteArray → Int → Option (Bool)
 | 0,_,_ => none
 | k + 1,x0,x3 => if x3 < 7 then (if x3 < 3 then (if 0 ≤ x3 then (if x3 < (x0.size : Int) then (if (bt x0 x3) < 65 then (some false) else (if (bt x0 x3) > 90 then (some false) else (if x3 > 2 then (if (bt x0 x3) < 48 then (some false) else (if (bt x0 x3) > 57 then (some false) else (spec_l2Seven.l0 k x0 (wrap64 (x3 + 1))))) else (spec_l2Seven.l0 k x0 (wrap64 (x3 + 1)))))) else (none)) else (none)) else (if x3 > 2 then (if 0 ≤ x3 then (if x3 < (x0.size : Int) then (if (bt x0 x3) < 48 then (some false) else (if (bt x0 x3) > 57 then (some false) else (spec_l2Seven.l0 k x0 (wrap64 (x3 + 1))))) else (none)) else (none)) else (spec_l2Seven.l0 k x0 (wrap64 (x3 + 1))))) else (some true)
def spec_l2Seven.f (k : Nat) (a0 : ByteArray) : Option (Bool):=if (a0.size : Int) = 7 then (spec_l2Seven.l0 k a0 0) else (some false)
theorem spec_l2Seven.mono_l : ∀ k,(∀ y0 y1,LeO (spec_l2Seven.l0 k y0 y1) (spec_l2Seven.l0 (k + 1) y0 y1))
 | 0 => fun _ _ r h => by simp [spec_l2Seven.l0] at h
 | k + 1 => by
  have ih0:=spec_l2Seven.mono_l k
  ·intro y0 y1
   unfold spec_l2Seven.l0
   repeat' first
   | (with_reducible exact ih0 _ _)
   | (with_reducible exact LeO.refl _)
   | (with_reducible exact LeO.none _)
   | (with_reducible refine LeO.ite ?_ ?_)
   | (with_reducible refine LeO.bind ?_ (fun _ => ?_))
   | exact ih0 _ _
   | exact LeO.none _
   | refine LeO.ite ?_ ?_
   | refine LeO.bind ?_ (fun _ => ?_)
theorem spec_l2Seven.mono : ∀ a0 k,LeO (spec_l2Seven.f k a0) (spec_l2Seven.f (k + 1) a0):=by
 intro a0 k
 have ih0:=spec_l2Seven.mono_l k
 unfold spec_l2Seven.f
 repeat' first
   | (with_reducible exact ih0 _ _)
   | (with_reducible exact LeO.refl _)
   | (with_reducible exact LeO.none _)
   | (with_reducible refine LeO.ite ?_ ?_)
   | (with_reducible refine LeO.bind ?_ (fun _ => ?_))
   | exact ih0 _ _
   | exact LeO.none _
   | refine LeO.ite ?_ ?_
   | refine LeO.bind ?_ (fun _ => ?_)
set_option maxHeartbeats 8000000 in
set_option maxRecDepth 100000 in
theorem spec_l2Seven.calls (k : Nat) (a0 : ByteArray) (r : Bool) (w : World) (h : spec_l2Seven.f k a0 = some r) :
  Calls Try.prog 52 #[.string a0] w fun e w' => e = .returned (.bool r) ∧ Drawn0 w w':=by
 have H : (if (a0.size : Int) = 7 then (spec_l2Seven.l0 k a0 0) else (some false)) = some r:=h
 clear h
 by_cases c2 : (a0.size : Int) = 7
 ·rw [if_pos c2] at H
  have c2b0 : ((a0.size : Int) == 7) = true:=beq_iff_eq.mpr c2
  have c2b1 : ((a0.size : Int) != 7) = false:=bne_eq_false_iff_eq.mpr c2
  clear c2
  have H':=Aside0.mk H
  clear H
  go_enter Try.func52,Try.ntmps52
  go_wp2
  (skip)
  go_loopg [3] k (fun kq v3 w' => ∃ (x3_1 : Int),v3 = .int .i64 x3_1 ∧ Aside0 (spec_l2Seven.l0 kq a0 x3_1 = some r) ∧ Aside0 (kq ≤ k) ∧ Drawn0 w w')
  case atStart => exact ⟨(0),(by rfl),H',⟨Nat.le_refl _⟩,by repeat (exact Drawn0.refl _)⟩
  case round =>
   clear H'
   try clear c2
   try clear c2b0
   try clear c2b1
   try clear p2
   obtain ⟨x3_1,rfl,HA,HK1,⟨m1,rfl⟩⟩ := hrel
   cases gk with
   | zero => exact absurd HA.out (by simp [spec_l2Seven.l0])
   | succ k1 =>
    have H:=HA.out
    clear HA
    simp only [spec_l2Seven.l0] at H
    by_cases c3 : x3_1 < 7
    ·rw [if_pos c3] at H
     have c3b0 : decide (x3_1 < 7) = true:=decide_eq_true c3
     clear c3
     by_cases c4 : x3_1 < 3
     ·rw [if_pos c4] at H
      have c4b0 : decide (x3_1 < 3) = true:=decide_eq_true c4
      clear c4
      by_cases c5 : 0 ≤ x3_1
      ·rw [if_pos c5] at H
       have c5b0 : decide (0 ≤ x3_1) = true:=decide_eq_true c5
       clear c5
       by_cases c6 : x3_1 < (a0.size : Int)
       ·rw [if_pos c6] at H
        have c6b0 : decide (x3_1 < (a0.size : Int)) = true:=decide_eq_true c6
        clear c6
        by_cases c8 : (bt a0 x3_1) < 65
        ·rw [if_pos c8] at H
         have c8b0 : decide ((bt a0 x3_1) < 65) = true:=decide_eq_true c8
         clear c8
         obtain rfl:=Option.some.inj H
         have p7 : 0 ≤ (x3_1 : Int):=of_decide_eq_true (by (with_reducible assumption))
         have q7 : x3_1 < (a0.size : Int):=of_decide_eq_true (by (with_reducible assumption))
         have hx7:=bt_at a0 x3_1
         replace p7:=eq_true p7
         replace q7:=eq_true q7
         go_wp2
         go_ret
         exact ⟨by rfl,by repeat (first | exact Drawn0.refl _ | apply Drawn0.step)⟩
        ·rw [if_neg c8] at H
         have c8b0 : decide ((bt a0 x3_1) < 65) = false:=decide_eq_false c8
         clear c8
         by_cases c10 : (bt a0 x3_1) > 90
         ·rw [if_pos c10] at H
          have c10b0 : decide (90 < (bt a0 x3_1)) = true:=decide_eq_true c10
          clear c10
          obtain rfl:=Option.some.inj H
          have p7 : 0 ≤ (x3_1 : Int):=of_decide_eq_true (by (with_reducible assumption))
          have q7 : x3_1 < (a0.size : Int):=of_decide_eq_true (by (with_reducible assumption))
          have hx7:=bt_at a0 x3_1
          replace p7:=eq_true p7
          replace q7:=eq_true q7
          have p9 : 0 ≤ (x3_1 : Int):=of_decide_eq_true (by (with_reducible assumption))
          have q9 : x3_1 < (a0.size : Int):=of_decide_eq_true (by (with_reducible assumption))
          have hx9:=bt_at a0 x3_1
          replace p9:=eq_true p9
          replace q9:=eq_true q9
          go_wp2
          go_ret
          exact ⟨by rfl,by repeat (first | exact Drawn0.refl _ | apply Drawn0.step)⟩
         ·rw [if_neg c10] at H
          have c10b0 : decide (90 < (bt a0 x3_1)) = false:=decide_eq_false c10
          clear c10
          by_cases c11 : x3_1 > 2
          ·rw [if_pos c11] at H
           have c11b0 : decide (2 < x3_1) = true:=decide_eq_true c11
           clear c11
           by_cases c13 : (bt a0 x3_1) < 48
           ·rw [if_pos c13] at H
            have c13b0 : decide ((bt a0 x3_1) < 48) = true:=decide_eq_true c13
            clear c13
            obtain rfl:=Option.some.inj H
            have p7 : 0 ≤ (x3_1 : Int):=of_decide_eq_true (by (with_reducible assumption))
            have q7 : x3_1 < (a0.size : Int):=of_decide_eq_true (by (with_reducible assumption))
            have hx7:=bt_at a0 x3_1
            replace p7:=eq_true p7
            replace q7:=eq_true q7
            have p9 : 0 ≤ (x3_1 : Int):=of_decide_eq_true (by (with_reducible assumption))
            have q9 : x3_1 < (a0.size : Int):=of_decide_eq_true (by (with_reducible assumption))
            have hx9:=bt_at a0 x3_1
            replace p9:=eq_true p9
            replace q9:=eq_true q9
            have p12 : 0 ≤ (x3_1 : Int):=of_decide_eq_true (by (with_reducible assumption))
            have q12 : x3_1 < (a0.size : Int):=of_decide_eq_true (by (with_reducible assumption))
            have hx12:=bt_at a0 x3_1
            replace p12:=eq_true p12
            replace q12:=eq_true q12
            go_wp2
            go_ret
            exact ⟨by rfl,by repeat (first | exact Drawn0.refl _ | apply Drawn0.step)⟩
           ·rw [if_neg c13] at H
            have c13b0 : decide ((bt a0 x3_1) < 48) = false:=decide_eq_false c13
            clear c13
            by_cases c15 : (bt a0 x3_1) > 57
            ·rw [if_pos c15] at H
             have c15b0 : decide (57 < (bt a0 x3_1)) = true:=decide_eq_true c15
             clear c15
             obtain rfl:=Option.some.inj H
             have p7 : 0 ≤ (x3_1 : Int):=of_decide_eq_true (by (with_reducible assumption))
             have q7 : x3_1 < (a0.size : Int):=of_decide_eq_true (by (with_reducible assumption))
             have hx7:=bt_at a0 x3_1
             replace p7:=eq_true p7
             replace q7:=eq_true q7
             have p9 : 0 ≤ (x3_1 : Int):=of_decide_eq_true (by (with_reducible assumption))
             have q9 : x3_1 < (a0.size : Int):=of_decide_eq_true (by (with_reducible assumption))
             have hx9:=bt_at a0 x3_1
             replace p9:=eq_true p9
             replace q9:=eq_true q9
             have p12 : 0 ≤ (x3_1 : Int):=of_decide_eq_true (by (with_reducible assumption))
             have q12 : x3_1 < (a0.size : Int):=of_decide_eq_true (by (with_reducible assumption))
             have hx12:=bt_at a0 x3_1
             replace p12:=eq_true p12
             replace q12:=eq_true q12
             have p14 : 0 ≤ (x3_1 : Int):=of_decide_eq_true (by (with_reducible assumption))
             have q14 : x3_1 < (a0.size : Int):=of_decide_eq_true (by (with_reducible assumption))
             have hx14:=bt_at a0 x3_1
             replace p14:=eq_true p14
             replace q14:=eq_true q14
             go_wp2
             go_ret
             exact ⟨by rfl,by repeat (first | exact Drawn0.refl _ | apply Drawn0.step)⟩
            ·rw [if_neg c15] at H
             have c15b0 : decide (57 < (bt a0 x3_1)) = false:=decide_eq_false c15
             clear c15
             have H':=Aside0.mk H
             clear H
             have p7 : 0 ≤ (x3_1 : Int):=of_decide_eq_true (by (with_reducible assumption))
             have q7 : x3_1 < (a0.size : Int):=of_decide_eq_true (by (with_reducible assumption))
             have hx7:=bt_at a0 x3_1
             replace p7:=eq_true p7
             replace q7:=eq_true q7
             have p9 : 0 ≤ (x3_1 : Int):=of_decide_eq_true (by (with_reducible assumption))
             have q9 : x3_1 < (a0.size : Int):=of_decide_eq_true (by (with_reducible assumption))
             have hx9:=bt_at a0 x3_1
             replace p9:=eq_true p9
             replace q9:=eq_true q9
             have p12 : 0 ≤ (x3_1 : Int):=of_decide_eq_true (by (with_reducible assumption))
             have q12 : x3_1 < (a0.size : Int):=of_decide_eq_true (by (with_reducible assumption))
             have hx12:=bt_at a0 x3_1
             replace p12:=eq_true p12
             replace q12:=eq_true q12
             have p14 : 0 ≤ (x3_1 : Int):=of_decide_eq_true (by (with_reducible assumption))
             have q14 : x3_1 < (a0.size : Int):=of_decide_eq_true (by (with_reducible assumption))
             have hx14:=bt_at a0 x3_1
             replace p14:=eq_true p14
             replace q14:=eq_true q14
             go_wp2
             go_roundg k1
             case measure => have:=HK1.out;omega
             case rel => exact ⟨(wrap64 (x3_1 + 1)),(by rfl),H',⟨by have:=HK1.out;omega⟩,by repeat (first | exact Drawn0.refl _ | apply Drawn0.step)⟩
          ·rw [if_neg c11] at H
           have c11b0 : decide (2 < x3_1) = false:=decide_eq_false c11
           clear c11
           have H':=Aside0.mk H
           clear H
           have p7 : 0 ≤ (x3_1 : Int):=of_decide_eq_true (by (with_reducible assumption))
           have q7 : x3_1 < (a0.size : Int):=of_decide_eq_true (by (with_reducible assumption))
           have hx7:=bt_at a0 x3_1
           replace p7:=eq_true p7
           replace q7:=eq_true q7
           have p9 : 0 ≤ (x3_1 : Int):=of_decide_eq_true (by (with_reducible assumption))
           have q9 : x3_1 < (a0.size : Int):=of_decide_eq_true (by (with_reducible assumption))
           have hx9:=bt_at a0 x3_1
           replace p9:=eq_true p9
           replace q9:=eq_true q9
           go_wp2
           go_roundg k1
           case measure => have:=HK1.out;omega
           case rel => exact ⟨(wrap64 (x3_1 + 1)),(by rfl),H',⟨by have:=HK1.out;omega⟩,by repeat (first | exact Drawn0.refl _ | apply Drawn0.step)⟩
       ·rw [if_neg c6] at H
        exact absurd H (by simp)
      ·rw [if_neg c5] at H
       exact absurd H (by simp)
     ·rw [if_neg c4] at H
      have c4b0 : decide (x3_1 < 3) = false:=decide_eq_false c4
      clear c4
      by_cases c16 : x3_1 > 2
      ·rw [if_pos c16] at H
       have c16b0 : decide (2 < x3_1) = true:=decide_eq_true c16
       clear c16
       by_cases c17 : 0 ≤ x3_1
       ·rw [if_pos c17] at H
        have c17b0 : decide (0 ≤ x3_1) = true:=decide_eq_true c17
        clear c17
        by_cases c18 : x3_1 < (a0.size : Int)
        ·rw [if_pos c18] at H
         have c18b0 : decide (x3_1 < (a0.size : Int)) = true:=decide_eq_true c18
         clear c18
         by_cases c20 : (bt a0 x3_1) < 48
         ·rw [if_pos c20] at H
          have c20b0 : decide ((bt a0 x3_1) < 48) = true:=decide_eq_true c20
          clear c20
          obtain rfl:=Option.some.inj H
          have p19 : 0 ≤ (x3_1 : Int):=of_decide_eq_true (by (with_reducible assumption))
          have q19 : x3_1 < (a0.size : Int):=of_decide_eq_true (by (with_reducible assumption))
          have hx19:=bt_at a0 x3_1
          replace p19:=eq_true p19
          replace q19:=eq_true q19
          go_wp2
          go_ret
          exact ⟨by rfl,by repeat (first | exact Drawn0.refl _ | apply Drawn0.step)⟩
         ·rw [if_neg c20] at H
          have c20b0 : decide ((bt a0 x3_1) < 48) = false:=decide_eq_false c20
          clear c20
          by_cases c22 : (bt a0 x3_1) > 57
          ·rw [if_pos c22] at H
           have c22b0 : decide (57 < (bt a0 x3_1)) = true:=decide_eq_true c22
           clear c22
           obtain rfl:=Option.some.inj H
           have p19 : 0 ≤ (x3_1 : Int):=of_decide_eq_true (by (with_reducible assumption))
           have q19 : x3_1 < (a0.size : Int):=of_decide_eq_true (by (with_reducible assumption))
           have hx19:=bt_at a0 x3_1
           replace p19:=eq_true p19
           replace q19:=eq_true q19
           have p21 : 0 ≤ (x3_1 : Int):=of_decide_eq_true (by (with_reducible assumption))
           have q21 : x3_1 < (a0.size : Int):=of_decide_eq_true (by (with_reducible assumption))
           have hx21:=bt_at a0 x3_1
           replace p21:=eq_true p21
           replace q21:=eq_true q21
           go_wp2
           go_ret
           exact ⟨by rfl,by repeat (first | exact Drawn0.refl _ | apply Drawn0.step)⟩
          ·rw [if_neg c22] at H
           have c22b0 : decide (57 < (bt a0 x3_1)) = false:=decide_eq_false c22
           clear c22
           have H':=Aside0.mk H
           clear H
           have p19 : 0 ≤ (x3_1 : Int):=of_decide_eq_true (by (with_reducible assumption))
           have q19 : x3_1 < (a0.size : Int):=of_decide_eq_true (by (with_reducible assumption))
           have hx19:=bt_at a0 x3_1
           replace p19:=eq_true p19
           replace q19:=eq_true q19
           have p21 : 0 ≤ (x3_1 : Int):=of_decide_eq_true (by (with_reducible assumption))
           have q21 : x3_1 < (a0.size : Int):=of_decide_eq_true (by (with_reducible assumption))
           have hx21:=bt_at a0 x3_1
           replace p21:=eq_true p21
           replace q21:=eq_true q21
           go_wp2
           go_roundg k1
           case measure => have:=HK1.out;omega
           case rel => exact ⟨(wrap64 (x3_1 + 1)),(by rfl),H',⟨by have:=HK1.out;omega⟩,by repeat (first | exact Drawn0.refl _ | apply Drawn0.step)⟩
        ·rw [if_neg c18] at H
         exact absurd H (by simp)
       ·rw [if_neg c17] at H
        exact absurd H (by simp)
      ·rw [if_neg c16] at H
       have c16b0 : decide (2 < x3_1) = false:=decide_eq_false c16
       clear c16
       have H':=Aside0.mk H
       clear H
       go_wp2
       go_roundg k1
       case measure => have:=HK1.out;omega
       case rel => exact ⟨(wrap64 (x3_1 + 1)),(by rfl),H',⟨by have:=HK1.out;omega⟩,by repeat (first | exact Drawn0.refl _ | apply Drawn0.step)⟩
    ·rw [if_neg c3] at H
     have c3b0 : decide (x3_1 < 7) = false:=decide_eq_false c3
     clear c3
     obtain rfl:=Option.some.inj H
     go_wp2
     go_ret
     exact ⟨by rfl,by repeat (first | exact Drawn0.refl _ | apply Drawn0.step)⟩
 ·rw [if_neg c2] at H
  have c2b0 : ((a0.size : Int) == 7) = false:=beq_eq_false_iff_ne.mpr c2
  have c2b1 : ((a0.size : Int) != 7) = true:=bne_iff_ne.mpr c2
  obtain rfl:=Option.some.inj H
  go_enter Try.func52,Try.ntmps52
  go_wp2
  go_ret
  exact ⟨by rfl,by repeat (exact Drawn0.refl _)⟩

end Go.Proofs.Yteebkbikpamkmaa.PFnHolds
