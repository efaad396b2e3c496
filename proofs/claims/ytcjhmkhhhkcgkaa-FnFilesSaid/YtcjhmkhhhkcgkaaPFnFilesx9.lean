-- Written by a program of this session, over the kit's print (wip/xprint.py)
import Derived.Test.YtcjhmkhhhkcgkaaPFnFilesx0
import Derived.Test.YtcjhmkhhhkcgkaaPFnFilesx8
namespace Go.Proofs.Ytcjhmkhhhkcgkaa.PFnFiles
open Go.RowKit Go.Proofs.YtcjhmkhhhkcgkaaW.PrintWords Go.Proofs.YtcjhmkhhhkcgkaaW.PrintLast Go.Proofs.YtcjhmkhhhkcgkaaW.PrintMore
attribute [local go_sem] max2_int min2_int max_two min_two max_three min_three max_four min_four   -- for this text's walks alone
set_option linter.unusedVariables false
set_option linter.unusedSimpArgs false

/-! ### spec_AddEntry: function 7 -/
def spec_AddEntry.f (k : Nat) (l0 : List (S26)) (a1_0 : Int) (a1_1 : ByteArray) (a1_2 : Bool) (a1_3 : Int) : Option ((List (S26)) × Bool):=(some (([] : List (S26)) : List (S26))).bind fun y320 => (if y320.length + l0.length < 3518437208883 then ((some (y320 ++ l0 : List (S26))).bind fun y323 => ((some (([(⟨a1_0,a1_1,a1_2,a1_3⟩ : S26)] : List (S26)) : List (S26))).bind fun y326 => (if y323.length + y326.length < 3518437208883 then ((some (y323 ++ y326 : List (S26))).bind fun y329 => ((spec_l20Good.f k l0).bind fun t332 => (if t332 = true then ((spec_l20Good.f k y329).bind fun t333 => (if t333 = true then (some (y329,true)) else (some ((([] : List (S26))),false)))) else (some ((([] : List (S26))),false))))) else (none)))) else (none))
theorem spec_AddEntry.mono : ∀ a0 a1 a2 a3 a4 k,LeO (spec_AddEntry.f k a0 a1 a2 a3 a4) (spec_AddEntry.f (k + 1) a0 a1 a2 a3 a4):=by
 intro a0 a1 a2 a3 a4 k
 unfold spec_AddEntry.f
 repeat' first
   | (with_reducible exact spec_l20Good.mono _ _)
   | (with_reducible exact LeO.refl _)
   | (with_reducible exact LeO.none _)
   | (with_reducible refine LeO.ite ?_ ?_)
   | (with_reducible refine LeO.bind ?_ (fun _ => ?_))
   | exact spec_l20Good.mono _ _
   | exact LeO.none _
   | refine LeO.ite ?_ ?_
   | refine LeO.bind ?_ (fun _ => ?_)
set_option maxHeartbeats 8000000 in
set_option maxRecDepth 100000 in
theorem spec_AddEntry.calls (k : Nat) (A0 : Option Addr) (c0 : Nat) (l0 : List (S26)) (a1_0 : Int) (a1_1 : ByteArray) (a1_2 : Bool) (a1_3 : Int) (r1 : List (S26)) (r2 : Bool) (w : World) (hr0 : Kd.C k26 w A0 l0.length l0) (hc0 : l0.length ≤ c0) (h : spec_AddEntry.f k l0 a1_0 a1_1 a1_2 a1_3 = some (r1,r2)) :
  Calls Try.prog 7 #[.slice A0 l0.length c0, .agg #[.int .i64 a1_0, .string a1_1, .bool a1_2, .int .i64 a1_3]] w fun e w' => ∃ v0_ : Value,e = .returned (.tuple #[v0_, .bool r2]) ∧ Kd.R k26 26 w' w.heap.size (fun _ => True) v0_ r1 ∧ Below w.heap.size w w':=by
 have hu26:=Try.underlying26
 have HR0:=Aside0.mk hr0
 have HC0:=Aside0.mk hc0
 clear hr0 hc0
 have HB:=Aside0.mk (Below.refl w.heap.size w)
 have H : ((some (([] : List (S26)) : List (S26))).bind fun y320 => (if y320.length + l0.length < 3518437208883 then ((some (y320 ++ l0 : List (S26))).bind fun y323 => ((some (([(⟨a1_0,a1_1,a1_2,a1_3⟩ : S26)] : List (S26)) : List (S26))).bind fun y326 => (if y323.length + y326.length < 3518437208883 then ((some (y323 ++ y326 : List (S26))).bind fun y329 => ((spec_l20Good.f k l0).bind fun t332 => (if t332 = true then ((spec_l20Good.f k y329).bind fun t333 => (if t333 = true then (some (y329,true)) else (some ((([] : List (S26))),false)))) else (some ((([] : List (S26))),false))))) else (none)))) else (none))) = some (r1,r2):=h
 clear h
 obtain ⟨y320,hy320⟩ : ∃ y_ : List (S26),y_ = (([] : List (S26))):=⟨_,rfl⟩
 replace H : (if y320.length + l0.length < 3518437208883 then ((some (y320 ++ l0 : List (S26))).bind fun y323 => ((some (([(⟨a1_0,a1_1,a1_2,a1_3⟩ : S26)] : List (S26)) : List (S26))).bind fun y326 => (if y323.length + y326.length < 3518437208883 then ((some (y323 ++ y326 : List (S26))).bind fun y329 => ((spec_l20Good.f k l0).bind fun t332 => (if t332 = true then ((spec_l20Good.f k y329).bind fun t333 => (if t333 = true then (some (y329,true)) else (some ((([] : List (S26))),false)))) else (some ((([] : List (S26))),false))))) else (none)))) else (none)) = some (r1,r2):=by (have H2_:=(Option.bind_some _ _).symm.trans H;rw [hy320];with_reducible exact H2_)
 have Ny320:=Aside0.mk hy320
 clear hy320
 by_cases c3 : y320.length + l0.length < 3518437208883
 ·rw [if_pos c3] at H
  have LMc3:=Aside0.mk c3
  clear c3
  obtain ⟨y323,hy323⟩ : ∃ y_ : List (S26),y_ = (y320 ++ l0):=⟨_,rfl⟩
  replace H : ((some (([(⟨a1_0,a1_1,a1_2,a1_3⟩ : S26)] : List (S26)) : List (S26))).bind fun y326 => (if y323.length + y326.length < 3518437208883 then ((some (y323 ++ y326 : List (S26))).bind fun y329 => ((spec_l20Good.f k l0).bind fun t332 => (if t332 = true then ((spec_l20Good.f k y329).bind fun t333 => (if t333 = true then (some (y329,true)) else (some ((([] : List (S26))),false)))) else (some ((([] : List (S26))),false))))) else (none))) = some (r1,r2):=by (have H2_:=(Option.bind_some _ _).symm.trans H;rw [hy323];with_reducible exact H2_)
  have Ny323:=Aside0.mk hy323
  clear hy323
  obtain ⟨y326,hy326⟩ : ∃ y_ : List (S26),y_ = (([(⟨a1_0,a1_1,a1_2,a1_3⟩ : S26)] : List (S26))):=⟨_,rfl⟩
  replace H : (if y323.length + y326.length < 3518437208883 then ((some (y323 ++ y326 : List (S26))).bind fun y329 => ((spec_l20Good.f k l0).bind fun t332 => (if t332 = true then ((spec_l20Good.f k y329).bind fun t333 => (if t333 = true then (some (y329,true)) else (some ((([] : List (S26))),false)))) else (some ((([] : List (S26))),false))))) else (none)) = some (r1,r2):=by (have H2_:=(Option.bind_some _ _).symm.trans H;rw [hy326];with_reducible exact H2_)
  have Ny326:=Aside0.mk hy326
  clear hy326
  by_cases c4 : y323.length + y326.length < 3518437208883
  ·rw [if_pos c4] at H
   have LMc4:=Aside0.mk c4
   clear c4
   obtain ⟨y329,hy329⟩ : ∃ y_ : List (S26),y_ = (y323 ++ y326):=⟨_,rfl⟩
   replace H : ((spec_l20Good.f k l0).bind fun t332 => (if t332 = true then ((spec_l20Good.f k y329).bind fun t333 => (if t333 = true then (some (y329,true)) else (some ((([] : List (S26))),false)))) else (some ((([] : List (S26))),false)))) = some (r1,r2):=by (have H2_:=(Option.bind_some _ _).symm.trans H;rw [hy329];with_reducible exact H2_)
   have Ny329:=Aside0.mk hy329
   clear hy329
   replace H:=Option.bind_eq_some_iff.mp H
   obtain ⟨t332,A50,H⟩ := H
   replace H : (if t332 = true then ((spec_l20Good.f k y329).bind fun t333 => (if t333 = true then (some (y329,true)) else (some ((([] : List (S26))),false)))) else (some ((([] : List (S26))),false))) = some (r1,r2):=H
   have A5:=Aside0.mk A50
   clear A50
   by_cases c6 : t332 = true
   ·subst c6
    have H1 : ((spec_l20Good.f k y329).bind fun t333 => (if t333 = true then (some (y329,true)) else (some ((([] : List (S26))),false)))) = some (r1,r2):=by rw [if_pos rfl] at H;exact H
    clear H
    have H:=H1
    clear H1
    replace H:=Option.bind_eq_some_iff.mp H
    obtain ⟨t333,A70,H⟩ := H
    replace H : (if t333 = true then (some (y329,true)) else (some ((([] : List (S26))),false))) = some (r1,r2):=H
    have A7:=Aside0.mk A70
    clear A70
    by_cases c8 : t333 = true
    ·subst c8
     have H1 : (some (y329,true)) = some (r1,r2):=by rw [if_pos rfl] at H;exact H
     clear H
     have H:=H1
     clear H1
     simp only [Option.some.injEq,Prod.mk.injEq] at H
     obtain ⟨rfl,rfl⟩ := H
     go_enter Try.func7,Try.ntmps7
     try go_wp2_with (((with_reducible refine gate_dst (N:=3) rfl ?_);refine box_event ?hg (N:=3) ?hd (cs:=#[.int .i64 a1_0, .string a1_1, .bool a1_2, .int .i64 a1_3]) (t:=26) ?hr ?_;(case hd => rfl);(case hg => rfl);(case hr => (go_simp;done));intro gb319 hg w9 hbox hb;have n0_:=Aside0.mk (below_step (by exact HB.out) hb);have n1_:=Aside0.mk (hbox);have n2_:=Aside0.mk ((by rw [hg];exact (below_size (by exact HB.out)) : w.heap.size ≤ gb319));have n3_:=Aside0.mk ((by rw [hg];exact (below_size (by exact HB.out)) : w.heap.size ≤ gb319));clear HB;have HB:=n0_;have BK319:=n1_;have GW319:=n2_;have GE319:=n3_;clear n0_ n1_ n2_ n3_;clear hb hbox hg))
     have n0_:=Aside0.mk (blk_drew BK319.out)
     have n1_:=Aside0.mk (below_drew1 HB.out)
     clear BK319
     clear HB
     have BK319:=n0_
     have HB:=n1_
     clear n0_ n1_
     refine start_ (n:=7) (S:=fun w' => w'.cell? ⟨gb319,0,none⟩ = some (.int .i64 a1_0) ∧ w'.cell? ⟨gb319,1,none⟩ = some (.string a1_1) ∧ w'.cell? ⟨gb319,2,none⟩ = some (.bool a1_2) ∧ w'.cell? ⟨gb319,3,none⟩ = some (.int .i64 a1_3)) (ds := []) #[false,false,false,false,false,false,false] (by kernel_rfl) rfl rfl ⟨(blk_cell BK319.out 0).trans rfl,(blk_cell BK319.out 1).trans rfl,(blk_cell BK319.out 2).trans rfl,(blk_cell BK319.out 3).trans rfl⟩ (fun hHeld => ?_)
     generalize w9.drew = w10 at BK319 HB hHeld ⊢
     refine pure_ (i:=1) (N:=some 8) (v:=?_) (a':=?_) #[false,true,false,false,false,false,false] rfl rfl (by kernel_rfl) (fun _ _ _ h => h) (Or.inl ⟨by rfl, ?_⟩) ?_ ?_
     rotate_left
     ·intro w'
      go_simp
      with_reducible rfl
     rotate_left
     ·simp only [Act.put,sA_,s0_,s1_,i64_w,i32_w]
      rfl
     refine take_ (i:=3) (N:=some 10) (v:=?_) (a':=?_) #[false,true,false,true,false,false,false] rfl rfl (by kernel_rfl) (fun _ _ _ h => h) (Or.inl ⟨by rfl, ?_⟩) hHeld ?_ ?_
     rotate_left
     ·rintro w' ⟨s0,s1,s2,s3⟩
      go_simp
      with_reducible rfl
     rotate_left
     ·simp only [Act.put,sA_,s0_,s1_,i64_w,i32_w]
      rfl
     refine join_ (σ:=Value × Value × Value) 2 #[true,true,true,true,true,false,false] (fun s_ => [(7,s_.1),(9,s_.2.1),(11,s_.2.2)]) (fun s_ w' => (w'.cell? ⟨gb319,0,none⟩ = some (.int .i64 a1_0) ∧ w'.cell? ⟨gb319,1,none⟩ = some (.string a1_1) ∧ w'.cell? ⟨gb319,2,none⟩ = some (.bool a1_2) ∧ w'.cell? ⟨gb319,3,none⟩ = some (.int .i64 a1_3)) ∧ (Kd.R k26 26 w' w.heap.size (fun k_ => some k_ ≠ (s_.2.2 : Value).ownBlock ∧ k_ ≠ gb319) s_.2.1 y323) ∧ (Kd.R k26 26 w' w.heap.size (fun k_ => some k_ ≠ (s_.2.1 : Value).ownBlock ∧ k_ ≠ gb319) s_.2.2 y326) ∧ (w'.heap[gb319]? = some (.cells #[.int .i64 a1_0, .string a1_1, .bool a1_2, .int .i64 a1_3] 26 (0,0))) ∧ (Below w.heap.size w w')) ?_ ?_
     rotate_left
     ·intro hCont
      refine two_ (i:=0) (j:=4) (Ni:=some 7) (Nj:=some 11) #[true,true,false,true,false,false,false] #[false,true,false,true,true,false,false] rfl rfl rfl rfl (by kernel_rfl) (by decide) (by decide) (fun K hK => ?_) (fun K hK => ?_)
      ·skip
       refine Kd.R_lit_step k26 _ 26 ?hg (N:=7) ?hd (xs:=([] : List (S26))) (inner := []) (ok:=fun _ => True) (okp:=fun _ => True) ?hr ?hp (fun _ hk => hk) trivial (Below.refl _ _) (Nat.le_refl _) (by simp) ?_;(case hd => rfl);(case hg => rfl);(case hr => (go_simp;done));(case hp => exact (Reps.none _ _))
       intro v321 w11 ho12 hb hg_ hnew_
       clear hg_ hnew_
       (rw [← Ny320.out] at ho12)
       have n0_:=Aside0.mk (Kd.R_lower (Kd.R_newB ho12 (g:=gb319) (o := .cells #[.int .i64 a1_0, .string a1_1, .bool a1_2, .int .i64 a1_3] 26 (0,0)) (by exact BK319.out)) (below_size (by exact HB.out)))
       have n1_:=Aside0.mk (blk_below (g:=gb319) (o := .cells #[.int .i64 a1_0, .string a1_1, .bool a1_2, .int .i64 a1_3] 26 (0,0)) (by exact BK319.out) hb)
       have n2_:=Aside0.mk (below_step (by exact HB.out) hb)
       clear BK319
       clear HB
       have HO322:=n0_
       have BK319:=n1_
       have HB:=n2_
       clear n0_ n1_ n2_
       clear hb ho12
       refine hK.out _ _ ⟨(blk_cell BK319.out 0).trans rfl,(blk_cell BK319.out 1).trans rfl,(blk_cell BK319.out 2).trans rfl,(blk_cell BK319.out 3).trans rfl⟩ (fun hHeld => ?_)
       clear hK K
       refine norm_ (a':=?_) ?_ ?_
       rotate_left
       ·show Act.put _ (some 7) _ = _
        simp only [Act.put,sA_,s0_,s1_,i64_w,i32_w]
        rfl
       refine two_ (i:=2) (j:=4) (Ni:=some 9) (Nj:=some 11) #[true,true,true,true,false,false,false] #[true,true,false,true,true,false,false] rfl rfl rfl rfl (by kernel_rfl) (by decide) (by decide) (fun K hK => ?_) (fun K hK => ?_)
       ·skip
        refine Kd.R_append_rows_step k26 (w0:=w) w.heap.size (by rfl) (.tmp 7) (.tmp 8) 24 26 (.agg #[(.int .i64 0),(.string ⟨#[]⟩),(.bool false),(.int .i64 0)]) 40 rfl Try.underlying24 info26 rfl (by decide) (by omega) v321 y320 l0 _ _ _ (fun k_ => k_ ≠ gb319) (fun _ => False) rfl rfl ?aO ?aR (fun _ _ h => h) (fun _ h => h.elim) ?aF ?aB ?aS ?aL ?_
        (case aR => repeat (exact (Kd.C_below HR0.out HB.out)))
        (case aB => exact (by exact HB.out))
        (case aF => exact (fun k_ hk => Kd.freshB (g:=gb319) (o := .cells #[.int .i64 a1_0, .string a1_1, .bool a1_2, .int .i64 a1_3] 26 (0,0)) (by exact BK319.out) k_ hk))
        (case aO => exact (by exact Kd.R_mono HO322.out (fun _ hk => hk.2)))
        (case aS => exact (below_size (by exact HB.out)))
        (case aL => have:=LMc3.out;omega)
        intro v324 w13 ho hb hg hat
        rw [← Ny323.out] at ho
        have n0_:=Aside0.mk (blk_grown (g:=gb319) (o := .cells #[.int .i64 a1_0, .string a1_1, .bool a1_2, .int .i64 a1_3] 26 (0,0)) (by exact BK319.out) hg (Kd.R_away HO322.out (fun _ hk => hk.2)))
        have n1_:=Aside0.mk (hb)
        have n2_:=Aside0.mk (ho)
        clear BK319
        clear HB
        clear HO322
        have BK319:=n0_
        have HB:=n1_
        have HO325:=n2_
        clear n0_ n1_ n2_
        clear ho hb hg hat
        refine hK.out _ _ ⟨(blk_cell BK319.out 0).trans rfl,(blk_cell BK319.out 1).trans rfl,(blk_cell BK319.out 2).trans rfl,(blk_cell BK319.out 3).trans rfl⟩ (fun hHeld => ?_)
        clear hK K
        refine norm_ (a':=?_) ?_ ?_
        rotate_left
        ·show Act.put _ (some 9) _ = _
         simp only [Act.put,sA_,s0_,s1_,i64_w,i32_w]
         rfl
        refine one_ (i:=4) (N:=some 11) #[true,true,true,true,true,false,false] rfl rfl (by kernel_rfl) (by decide) (fun K hK => ?_)
        refine Kd.R_lit_step k26 _ 26 ?hg (N:=11) ?hd (xs:=([(⟨a1_0,a1_1,a1_2,a1_3⟩ : S26)] : List (S26))) (inner := [.int .i64 a1_0, .string a1_1, .bool a1_2, .int .i64 a1_3]) (ok:=fun _ => True) (okp:=fun _ => True) ?hr ?hp (fun _ hk => hk) trivial (Below.refl _ _) (Nat.le_refl _) (by simp) ?_;(case hd => rfl);(case hg => rfl);(case hr => (go_simp;done));(case hp => exact (Reps.c4 (show Kd.M k26 _ _ _ (⟨a1_0,a1_1,a1_2,a1_3⟩ : S26) [.int .i64 a1_0, .string a1_1, .bool a1_2, .int .i64 a1_3] from (k26_mkM _ _ _ (⟨a1_0,a1_1,a1_2,a1_3⟩ : S26) )) (Reps.none _ _)))
        intro v327 w14 ho15 hb hg_ hnew_
        clear hg_ hnew_
        (rw [← Ny326.out] at ho15)
        have n0_:=Aside0.mk (Kd.R_elder' (by exact HO325.out) (Kd.R_base ho15) hb)
        have n1_:=Aside0.mk (Kd.R_lower (Kd.R_newB (Kd.R_new' ho15 (Kd.R_lt (by exact HO325.out))) (g:=gb319) (o := .cells #[.int .i64 a1_0, .string a1_1, .bool a1_2, .int .i64 a1_3] 26 (0,0)) (by exact BK319.out)) (below_size (by exact HB.out)))
        have n2_:=Aside0.mk (blk_below (g:=gb319) (o := .cells #[.int .i64 a1_0, .string a1_1, .bool a1_2, .int .i64 a1_3] 26 (0,0)) (by exact BK319.out) hb)
        have n3_:=Aside0.mk (below_step (by exact HB.out) hb)
        clear HO325
        clear BK319
        clear HB
        have HO325:=n0_
        have HO328:=n1_
        have BK319:=n2_
        have HB:=n3_
        clear n0_ n1_ n2_ n3_
        clear hb ho15
        refine hK.out _ _ ⟨(blk_cell BK319.out 0).trans rfl,(blk_cell BK319.out 1).trans rfl,(blk_cell BK319.out 2).trans rfl,(blk_cell BK319.out 3).trans rfl⟩ (fun hHeld => ?_)
        clear hK K
        refine norm_ (a':=?_) ?_ ?_
        rotate_left
        ·show Act.put _ (some 11) _ = _
         simp only [Act.put,sA_,s0_,s1_,i64_w,i32_w]
         rfl
        exact norm_ (by simp only [putAll,Act.put,sA_,s0_,s1_]) (hCont (v321,v324,v327) _ ⟨hHeld,(by exact Kd.R_mono HO325.out (fun _ hk => ⟨hk.2,hk.1⟩)),(by exact Kd.R_mono HO328.out (fun _ hk => ⟨hk.1.2,hk.2⟩)),(by exact BK319.out),(by exact HB.out)⟩)
       ·skip
        refine Kd.R_lit_step k26 _ 26 ?hg (N:=11) ?hd (xs:=([(⟨a1_0,a1_1,a1_2,a1_3⟩ : S26)] : List (S26))) (inner := [.int .i64 a1_0, .string a1_1, .bool a1_2, .int .i64 a1_3]) (ok:=fun _ => True) (okp:=fun _ => True) ?hr ?hp (fun _ hk => hk) trivial (Below.refl _ _) (Nat.le_refl _) (by simp) ?_;(case hd => rfl);(case hg => rfl);(case hr => (go_simp;done));(case hp => exact (Reps.c4 (show Kd.M k26 _ _ _ (⟨a1_0,a1_1,a1_2,a1_3⟩ : S26) [.int .i64 a1_0, .string a1_1, .bool a1_2, .int .i64 a1_3] from (k26_mkM _ _ _ (⟨a1_0,a1_1,a1_2,a1_3⟩ : S26) )) (Reps.none _ _)))
        intro v327 w13 ho14 hb hg_ hnew_
        clear hg_ hnew_
        (rw [← Ny326.out] at ho14)
        have n0_:=Aside0.mk (Kd.R_elder' (by exact HO322.out) (Kd.R_base ho14) hb)
        have n1_:=Aside0.mk (Kd.R_lower (Kd.R_newB (Kd.R_new' ho14 (Kd.R_lt (by exact HO322.out))) (g:=gb319) (o := .cells #[.int .i64 a1_0, .string a1_1, .bool a1_2, .int .i64 a1_3] 26 (0,0)) (by exact BK319.out)) (below_size (by exact HB.out)))
        have n2_:=Aside0.mk (blk_below (g:=gb319) (o := .cells #[.int .i64 a1_0, .string a1_1, .bool a1_2, .int .i64 a1_3] 26 (0,0)) (by exact BK319.out) hb)
        have n3_:=Aside0.mk (below_step (by exact HB.out) hb)
        clear HO322
        clear BK319
        clear HB
        have HO322:=n0_
        have HO328:=n1_
        have BK319:=n2_
        have HB:=n3_
        clear n0_ n1_ n2_ n3_
        clear hb ho14
        refine hK.out _ _ ⟨(blk_cell BK319.out 0).trans rfl,(blk_cell BK319.out 1).trans rfl,(blk_cell BK319.out 2).trans rfl,(blk_cell BK319.out 3).trans rfl⟩ (fun hHeld => ?_)
        clear hK K
        refine norm_ (a':=?_) ?_ ?_
        rotate_left
        ·show Act.put _ (some 11) _ = _
         simp only [Act.put,sA_,s0_,s1_,i64_w,i32_w]
         rfl
        refine one_ (i:=2) (N:=some 9) #[true,true,true,true,true,false,false] rfl rfl (by kernel_rfl) (by decide) (fun K hK => ?_)
        refine Kd.R_append_rows_step k26 (w0:=w) w.heap.size (by rfl) (.tmp 7) (.tmp 8) 24 26 (.agg #[(.int .i64 0),(.string ⟨#[]⟩),(.bool false),(.int .i64 0)]) 40 rfl Try.underlying24 info26 rfl (by decide) (by omega) v321 y320 l0 _ _ _ (fun k_ => some k_ ≠ (v327 : Value).ownBlock ∧ k_ ≠ gb319) (fun _ => False) rfl rfl ?aO ?aR (fun _ _ h => h) (fun _ h => h.elim) ?aF ?aB ?aS ?aL ?_
        (case aR => repeat (exact (Kd.C_below HR0.out HB.out)))
        (case aB => exact (by exact HB.out))
        (case aF => exact (fun k_ hk => ⟨Kd.fresh' (Kd.R_lt (by exact HO328.out)) k_ hk,Kd.freshB (g:=gb319) (o := .cells #[.int .i64 a1_0, .string a1_1, .bool a1_2, .int .i64 a1_3] 26 (0,0)) (by exact BK319.out) k_ hk⟩))
        (case aO => exact (by exact Kd.R_mono HO322.out (fun _ hk => ⟨hk.2,hk.1.2⟩)))
        (case aS => exact (below_size (by exact HB.out)))
        (case aL => have:=LMc3.out;omega)
        intro v324 w15 ho hb hg hat
        rw [← Ny323.out] at ho
        have n0_:=Aside0.mk (blk_grown (g:=gb319) (o := .cells #[.int .i64 a1_0, .string a1_1, .bool a1_2, .int .i64 a1_3] 26 (0,0)) (by exact BK319.out) hg (Kd.R_away HO322.out (fun _ hk => hk.1.2)))
        have n1_:=Aside0.mk (Kd.R_after (ok:=(fun k_ => k_ ≠ gb319)) (by exact Kd.R_mono HO328.out (fun _ hk => ⟨hk.2,hk.1.2⟩)) hg hat)
        have n2_:=Aside0.mk (hb)
        have n3_:=Aside0.mk (ho)
        clear BK319
        clear HO328
        clear HB
        clear HO322
        have BK319:=n0_
        have HO328:=n1_
        have HB:=n2_
        have HO325:=n3_
        clear n0_ n1_ n2_ n3_
        clear ho hb hg hat
        refine hK.out _ _ ⟨(blk_cell BK319.out 0).trans rfl,(blk_cell BK319.out 1).trans rfl,(blk_cell BK319.out 2).trans rfl,(blk_cell BK319.out 3).trans rfl⟩ (fun hHeld => ?_)
        clear hK K
        refine norm_ (a':=?_) ?_ ?_
        rotate_left
        ·show Act.put _ (some 9) _ = _
         simp only [Act.put,sA_,s0_,s1_,i64_w,i32_w]
         rfl
        exact norm_ (by simp only [putAll,Act.put,sA_,s0_,s1_]) (hCont (v321,v324,v327) _ ⟨hHeld,(by exact HO325.out),(by exact Kd.R_mono HO328.out (fun _ hk => ⟨hk.2,hk.1⟩)),(by exact BK319.out),(by exact HB.out)⟩)
      ·skip
       refine Kd.R_lit_step k26 _ 26 ?hg (N:=11) ?hd (xs:=([(⟨a1_0,a1_1,a1_2,a1_3⟩ : S26)] : List (S26))) (inner := [.int .i64 a1_0, .string a1_1, .bool a1_2, .int .i64 a1_3]) (ok:=fun _ => True) (okp:=fun _ => True) ?hr ?hp (fun _ hk => hk) trivial (Below.refl _ _) (Nat.le_refl _) (by simp) ?_;(case hd => rfl);(case hg => rfl);(case hr => (go_simp;done));(case hp => exact (Reps.c4 (show Kd.M k26 _ _ _ (⟨a1_0,a1_1,a1_2,a1_3⟩ : S26) [.int .i64 a1_0, .string a1_1, .bool a1_2, .int .i64 a1_3] from (k26_mkM _ _ _ (⟨a1_0,a1_1,a1_2,a1_3⟩ : S26) )) (Reps.none _ _)))
       intro v327 w11 ho12 hb hg_ hnew_
       clear hg_ hnew_
       (rw [← Ny326.out] at ho12)
       have n0_:=Aside0.mk (Kd.R_lower (Kd.R_newB ho12 (g:=gb319) (o := .cells #[.int .i64 a1_0, .string a1_1, .bool a1_2, .int .i64 a1_3] 26 (0,0)) (by exact BK319.out)) (below_size (by exact HB.out)))
       have n1_:=Aside0.mk (blk_below (g:=gb319) (o := .cells #[.int .i64 a1_0, .string a1_1, .bool a1_2, .int .i64 a1_3] 26 (0,0)) (by exact BK319.out) hb)
       have n2_:=Aside0.mk (below_step (by exact HB.out) hb)
       clear BK319
       clear HB
       have HO328:=n0_
       have BK319:=n1_
       have HB:=n2_
       clear n0_ n1_ n2_
       clear hb ho12
       refine hK.out _ _ ⟨(blk_cell BK319.out 0).trans rfl,(blk_cell BK319.out 1).trans rfl,(blk_cell BK319.out 2).trans rfl,(blk_cell BK319.out 3).trans rfl⟩ (fun hHeld => ?_)
       clear hK K
       refine norm_ (a':=?_) ?_ ?_
       rotate_left
       ·show Act.put _ (some 11) _ = _
        simp only [Act.put,sA_,s0_,s1_,i64_w,i32_w]
        rfl
       refine one_ (i:=0) (N:=some 7) #[true,true,false,true,true,false,false] rfl rfl (by kernel_rfl) (by decide) (fun K hK => ?_)
       refine Kd.R_lit_step k26 _ 26 ?hg (N:=7) ?hd (xs:=([] : List (S26))) (inner := []) (ok:=fun _ => True) (okp:=fun _ => True) ?hr ?hp (fun _ hk => hk) trivial (Below.refl _ _) (Nat.le_refl _) (by simp) ?_;(case hd => rfl);(case hg => rfl);(case hr => (go_simp;done));(case hp => exact (Reps.none _ _))
       intro v321 w13 ho14 hb hg_ hnew_
       clear hg_ hnew_
       (rw [← Ny320.out] at ho14)
       have n0_:=Aside0.mk (Kd.R_elder' (by exact HO328.out) (Kd.R_base ho14) hb)
       have n1_:=Aside0.mk (Kd.R_lower (Kd.R_newB (Kd.R_new' ho14 (Kd.R_lt (by exact HO328.out))) (g:=gb319) (o := .cells #[.int .i64 a1_0, .string a1_1, .bool a1_2, .int .i64 a1_3] 26 (0,0)) (by exact BK319.out)) (below_size (by exact HB.out)))
       have n2_:=Aside0.mk (blk_below (g:=gb319) (o := .cells #[.int .i64 a1_0, .string a1_1, .bool a1_2, .int .i64 a1_3] 26 (0,0)) (by exact BK319.out) hb)
       have n3_:=Aside0.mk (below_step (by exact HB.out) hb)
       clear HO328
       clear BK319
       clear HB
       have HO328:=n0_
       have HO322:=n1_
       have BK319:=n2_
       have HB:=n3_
       clear n0_ n1_ n2_ n3_
       clear hb ho14
       refine hK.out _ _ ⟨(blk_cell BK319.out 0).trans rfl,(blk_cell BK319.out 1).trans rfl,(blk_cell BK319.out 2).trans rfl,(blk_cell BK319.out 3).trans rfl⟩ (fun hHeld => ?_)
       clear hK K
       refine norm_ (a':=?_) ?_ ?_
       rotate_left
       ·show Act.put _ (some 7) _ = _
        simp only [Act.put,sA_,s0_,s1_,i64_w,i32_w]
        rfl
       refine one_ (i:=2) (N:=some 9) #[true,true,true,true,true,false,false] rfl rfl (by kernel_rfl) (by decide) (fun K hK => ?_)
       refine Kd.R_append_rows_step k26 (w0:=w) w.heap.size (by rfl) (.tmp 7) (.tmp 8) 24 26 (.agg #[(.int .i64 0),(.string ⟨#[]⟩),(.bool false),(.int .i64 0)]) 40 rfl Try.underlying24 info26 rfl (by decide) (by omega) v321 y320 l0 _ _ _ (fun k_ => some k_ ≠ (v327 : Value).ownBlock ∧ k_ ≠ gb319) (fun _ => False) rfl rfl ?aO ?aR (fun _ _ h => h) (fun _ h => h.elim) ?aF ?aB ?aS ?aL ?_
       (case aR => repeat (exact (Kd.C_below HR0.out HB.out)))
       (case aB => exact (by exact HB.out))
       (case aF => exact (fun k_ hk => ⟨Kd.fresh' (Kd.R_lt (by exact HO328.out)) k_ hk,Kd.freshB (g:=gb319) (o := .cells #[.int .i64 a1_0, .string a1_1, .bool a1_2, .int .i64 a1_3] 26 (0,0)) (by exact BK319.out) k_ hk⟩))
       (case aO => exact (by exact Kd.R_mono HO322.out (fun _ hk => ⟨hk.1.2,hk.2⟩)))
       (case aS => exact (below_size (by exact HB.out)))
       (case aL => have:=LMc3.out;omega)
       intro v324 w15 ho hb hg hat
       rw [← Ny323.out] at ho
       have n0_:=Aside0.mk (blk_grown (g:=gb319) (o := .cells #[.int .i64 a1_0, .string a1_1, .bool a1_2, .int .i64 a1_3] 26 (0,0)) (by exact BK319.out) hg (Kd.R_away HO322.out (fun _ hk => hk.2)))
       have n1_:=Aside0.mk (Kd.R_after (ok:=(fun k_ => k_ ≠ gb319)) (by exact Kd.R_mono HO328.out (fun _ hk => ⟨hk.1.2,hk.2⟩)) hg hat)
       have n2_:=Aside0.mk (hb)
       have n3_:=Aside0.mk (ho)
       clear BK319
       clear HO328
       clear HB
       clear HO322
       have BK319:=n0_
       have HO328:=n1_
       have HB:=n2_
       have HO325:=n3_
       clear n0_ n1_ n2_ n3_
       clear ho hb hg hat
       refine hK.out _ _ ⟨(blk_cell BK319.out 0).trans rfl,(blk_cell BK319.out 1).trans rfl,(blk_cell BK319.out 2).trans rfl,(blk_cell BK319.out 3).trans rfl⟩ (fun hHeld => ?_)
       clear hK K
       refine norm_ (a':=?_) ?_ ?_
       rotate_left
       ·show Act.put _ (some 9) _ = _
        simp only [Act.put,sA_,s0_,s1_,i64_w,i32_w]
        rfl
       exact norm_ (by simp only [putAll,Act.put,sA_,s0_,s1_]) (hCont (v321,v324,v327) _ ⟨hHeld,(by exact HO325.out),(by exact Kd.R_mono HO328.out (fun _ hk => ⟨hk.2,hk.1⟩)),(by exact BK319.out),(by exact HB.out)⟩)
     rintro ⟨v321,v324,v327⟩ w16 ⟨hS_,h0_,h1_,h2_,h3_⟩
     have n0_ : Aside0 (Kd.R k26 26 w16 w.heap.size (fun k_ => some k_ ≠ (v327 : Value).ownBlock ∧ k_ ≠ gb319) v324 y323):=⟨h0_⟩
     have n1_ : Aside0 (Kd.R k26 26 w16 w.heap.size (fun k_ => some k_ ≠ (v324 : Value).ownBlock ∧ k_ ≠ gb319) v327 y326):=⟨h1_⟩
     have n2_ : Aside0 (w16.heap[gb319]? = some (.cells #[.int .i64 a1_0, .string a1_1, .bool a1_2, .int .i64 a1_3] 26 (0,0))):=⟨h2_⟩
     have n3_ : Aside0 (Below w.heap.size w w16):=⟨h3_⟩
     clear BK319
     clear HB
     clear h0_ h1_ h2_ h3_
     have HO325:=n0_
     have HO328:=n1_
     have BK319:=n2_
     have HB:=n3_
     clear n0_ n1_ n2_ n3_
     have hHeld : w16.cell? ⟨gb319,0,none⟩ = some (.int .i64 a1_0) ∧ w16.cell? ⟨gb319,1,none⟩ = some (.string a1_1) ∧ w16.cell? ⟨gb319,2,none⟩ = some (.bool a1_2) ∧ w16.cell? ⟨gb319,3,none⟩ = some (.int .i64 a1_3):=hS_
     obtain ⟨Ao18,co18,eo18⟩ := Kd.R_slice HO328.out
     (subst eo18)
     refine norm_ (a':=?_) ?_ ?_
     rotate_left
     ·simp only [putAll,Act.put,sA_,s0_,s1_]
      rfl
     refine one_ (i:=5) (N:=some 12) #[true,true,true,true,true,true,false] rfl rfl (by kernel_rfl) (by decide) (fun K hK => ?_)
     refine Kd.R_append_rows_step k26 (w0:=w) w.heap.size (by rfl) (.tmp 9) (.tmp 11) 24 26 (.agg #[(.int .i64 0),(.string ⟨#[]⟩),(.bool false),(.int .i64 0)]) 40 rfl Try.underlying24 info26 rfl (by decide) (by omega) v324 y323 y326 _ _ _ (fun k_ => some k_ ≠ (.slice Ao18 y326.length co18 : Value).ownBlock ∧ k_ ≠ gb319) (fun _ => False) rfl rfl ?aO ?aR (fun _ _ h => h) (fun _ h => h.elim) ?aF ?aB ?aS ?aL ?_
     (case aR => repeat (exact (Kd.R_reads' HO328.out).2.2))
     (case aB => exact (by exact HB.out))
     (case aF => exact (fun k_ hk => ⟨Kd.fresh' (Kd.R_lt (by exact HO328.out)) k_ hk,Kd.freshB (g:=gb319) (o := .cells #[.int .i64 a1_0, .string a1_1, .bool a1_2, .int .i64 a1_3] 26 (0,0)) (by exact BK319.out) k_ hk⟩))
     (case aO => exact (by exact HO325.out))
     (case aS => exact (below_size (by exact HB.out)))
     (case aL => have:=LMc4.out;omega)
     intro v330 w17 ho hb hg hat
     rw [← Ny329.out] at ho
     have n0_:=Aside0.mk (blk_grown (g:=gb319) (o := .cells #[.int .i64 a1_0, .string a1_1, .bool a1_2, .int .i64 a1_3] 26 (0,0)) (by exact BK319.out) hg (Kd.R_away HO325.out (fun _ hk => hk.2)))
     have n1_:=Aside0.mk (Kd.R_after (ok:=(fun k_ => k_ ≠ gb319)) (by exact Kd.R_mono HO328.out (fun _ hk => ⟨hk.2,hk.1⟩)) hg hat)
     have n2_:=Aside0.mk (hb)
     have n3_:=Aside0.mk (ho)
     clear BK319
     clear HO328
     clear HB
     clear HO325
     have BK319:=n0_
     have HO328:=n1_
     have HB:=n2_
     have HO331:=n3_
     clear n0_ n1_ n2_ n3_
     clear ho hb hg hat
     refine hK.out _ _ ⟨(blk_cell BK319.out 0).trans rfl,(blk_cell BK319.out 1).trans rfl,(blk_cell BK319.out 2).trans rfl,(blk_cell BK319.out 3).trans rfl⟩ (fun hHeld => ?_)
     clear hK K
     refine norm_ (a':=?_) ?_ ?_
     rotate_left
     ·show Act.put _ (some 12) _ = _
      simp only [Act.put,sA_,s0_,s1_,i64_w,i32_w]
      rfl
     refine pure_ (i:=6) (N:=some 6) (v:=?_) (a':=?_) #[true,true,true,true,true,true,true] rfl rfl (by kernel_rfl) (fun _ _ _ h => h) (Or.inl ⟨by rfl, ?_⟩) ?_ ?_
     rotate_left
     ·intro w'
      go_simp
      with_reducible rfl
     rotate_left
     ·simp only [Act.put,sA_,s0_,s1_,i64_w,i32_w]
      rfl
     refine done_ (by kernel_rfl) ?_
     try go_wp2_with (first | ((with_reducible refine gate_callee (f:=25) rfl ?_);refine goesL_ (some 14) rfl rfl Try.func25 (by kernel_rfl) rfl #[.slice A0 l0.length c0] rfl (by (try simp only [List.map_toArray,List.map_cons,List.map_nil]);rfl) ?_;(with_reducible refine (spec_l20Good.calls k _ _ l0 true _ ?side1 ?side2 A5.out).mono ?_);(case side1 => repeat (exact (Kd.C_below HR0.out HB.out)));(case side2 => exact HC0.out);rintro e w19 ⟨rfl,hb⟩;refine ⟨_,rfl, ?_⟩;have n0_:=Aside0.mk (Kd.R_below (by exact HO328.out) hb);have n1_:=Aside0.mk (Kd.R_below (by exact HO331.out) hb);have n2_:=Aside0.mk (blk_below (g:=gb319) (o := .cells #[.int .i64 a1_0, .string a1_1, .bool a1_2, .int .i64 a1_3] 26 (0,0)) (by exact BK319.out) hb);have n3_:=Aside0.mk (below_step (by exact HB.out) hb);clear HO328;clear HO331;clear BK319;clear HB;have HO328:=n0_;have HO331:=n1_;have BK319:=n2_;have HB:=n3_;clear n0_ n1_ n2_ n3_;(try clear hb);obtain ⟨Ao20,co20,eo20⟩ := Kd.R_slice HO331.out;subst eo20) | (go_at_call 25;(with_reducible refine (spec_l20Good.calls k _ _ y329 true _ ?side1 ?side2 A7.out).mono ?_);(case side1 => repeat (exact (Kd.R_reads' HO331.out).2.2));(case side2 => exact (Kd.R_reads' HO331.out).2.1);rintro e w21 ⟨rfl,hb⟩;have n0_:=Aside0.mk (Kd.R_below (by exact HO328.out) hb);have n1_:=Aside0.mk (Kd.R_below (by exact HO331.out) hb);have n2_:=Aside0.mk (blk_below (g:=gb319) (o := .cells #[.int .i64 a1_0, .string a1_1, .bool a1_2, .int .i64 a1_3] 26 (0,0)) (by exact BK319.out) hb);have n3_:=Aside0.mk (below_step (by exact HB.out) hb);clear HO328;clear HO331;clear BK319;clear HB;have HO328:=n0_;have HO331:=n1_;have BK319:=n2_;have HB:=n3_;clear n0_ n1_ n2_ n3_;(try clear hb)))
     go_ret2
     exact ⟨_,by rfl,by exact Kd.R_mono HO331.out (fun _ hk => trivial),by exact HB.out⟩
    ·replace c8:=Bool.eq_false_iff.mpr c8
     subst c8
     have H1 : (some ((([] : List (S26))),false)) = some (r1,r2):=by rw [if_neg (show ¬ (false = true) by decide)] at H;exact H
     clear H
     have H:=H1
     clear H1
     obtain ⟨y334,hy334⟩ : ∃ y_ : List (S26),y_ = (([] : List (S26))):=⟨_,rfl⟩
     replace H : (some (y334,false)) = some (r1,r2):=by (rw [hy334];with_reducible exact H)
     have Ny334:=Aside0.mk hy334
     clear hy334
     simp only [Option.some.injEq,Prod.mk.injEq] at H
     obtain ⟨rfl,rfl⟩ := H
     go_enter Try.func7,Try.ntmps7
     try go_wp2_with (((with_reducible refine gate_dst (N:=3) rfl ?_);refine box_event ?hg (N:=3) ?hd (cs:=#[.int .i64 a1_0, .string a1_1, .bool a1_2, .int .i64 a1_3]) (t:=26) ?hr ?_;(case hd => rfl);(case hg => rfl);(case hr => (go_simp;done));intro gb319 hg w22 hbox hb;have n0_:=Aside0.mk (below_step (by exact HB.out) hb);have n1_:=Aside0.mk (hbox);have n2_:=Aside0.mk ((by rw [hg];exact (below_size (by exact HB.out)) : w.heap.size ≤ gb319));have n3_:=Aside0.mk ((by rw [hg];exact (below_size (by exact HB.out)) : w.heap.size ≤ gb319));clear HB;have HB:=n0_;have BK319:=n1_;have GW319:=n2_;have GE319:=n3_;clear n0_ n1_ n2_ n3_;clear hb hbox hg))
     have n0_:=Aside0.mk (blk_drew BK319.out)
     have n1_:=Aside0.mk (below_drew1 HB.out)
     clear BK319
     clear HB
     have BK319:=n0_
     have HB:=n1_
     clear n0_ n1_
     refine start_ (n:=7) (S:=fun w' => w'.cell? ⟨gb319,0,none⟩ = some (.int .i64 a1_0) ∧ w'.cell? ⟨gb319,1,none⟩ = some (.string a1_1) ∧ w'.cell? ⟨gb319,2,none⟩ = some (.bool a1_2) ∧ w'.cell? ⟨gb319,3,none⟩ = some (.int .i64 a1_3)) (ds := []) #[false,false,false,false,false,false,false] (by kernel_rfl) rfl rfl ⟨(blk_cell BK319.out 0).trans rfl,(blk_cell BK319.out 1).trans rfl,(blk_cell BK319.out 2).trans rfl,(blk_cell BK319.out 3).trans rfl⟩ (fun hHeld => ?_)
     generalize w22.drew = w23 at BK319 HB hHeld ⊢
     refine pure_ (i:=1) (N:=some 8) (v:=?_) (a':=?_) #[false,true,false,false,false,false,false] rfl rfl (by kernel_rfl) (fun _ _ _ h => h) (Or.inl ⟨by rfl, ?_⟩) ?_ ?_
     rotate_left
     ·intro w'
      go_simp
      with_reducible rfl
     rotate_left
     ·simp only [Act.put,sA_,s0_,s1_,i64_w,i32_w]
      rfl
     refine take_ (i:=3) (N:=some 10) (v:=?_) (a':=?_) #[false,true,false,true,false,false,false] rfl rfl (by kernel_rfl) (fun _ _ _ h => h) (Or.inl ⟨by rfl, ?_⟩) hHeld ?_ ?_
     rotate_left
     ·rintro w' ⟨s0,s1,s2,s3⟩
      go_simp
      with_reducible rfl
     rotate_left
     ·simp only [Act.put,sA_,s0_,s1_,i64_w,i32_w]
      rfl
     refine join_ (σ:=Value × Value × Value) 2 #[true,true,true,true,true,false,false] (fun s_ => [(7,s_.1),(9,s_.2.1),(11,s_.2.2)]) (fun s_ w' => (w'.cell? ⟨gb319,0,none⟩ = some (.int .i64 a1_0) ∧ w'.cell? ⟨gb319,1,none⟩ = some (.string a1_1) ∧ w'.cell? ⟨gb319,2,none⟩ = some (.bool a1_2) ∧ w'.cell? ⟨gb319,3,none⟩ = some (.int .i64 a1_3)) ∧ (Kd.R k26 26 w' w.heap.size (fun k_ => some k_ ≠ (s_.2.2 : Value).ownBlock ∧ k_ ≠ gb319) s_.2.1 y323) ∧ (Kd.R k26 26 w' w.heap.size (fun k_ => some k_ ≠ (s_.2.1 : Value).ownBlock ∧ k_ ≠ gb319) s_.2.2 y326) ∧ (w'.heap[gb319]? = some (.cells #[.int .i64 a1_0, .string a1_1, .bool a1_2, .int .i64 a1_3] 26 (0,0))) ∧ (Below w.heap.size w w')) ?_ ?_
     rotate_left
     ·intro hCont
      refine two_ (i:=0) (j:=4) (Ni:=some 7) (Nj:=some 11) #[true,true,false,true,false,false,false] #[false,true,false,true,true,false,false] rfl rfl rfl rfl (by kernel_rfl) (by decide) (by decide) (fun K hK => ?_) (fun K hK => ?_)
      ·skip
       refine Kd.R_lit_step k26 _ 26 ?hg (N:=7) ?hd (xs:=([] : List (S26))) (inner := []) (ok:=fun _ => True) (okp:=fun _ => True) ?hr ?hp (fun _ hk => hk) trivial (Below.refl _ _) (Nat.le_refl _) (by simp) ?_;(case hd => rfl);(case hg => rfl);(case hr => (go_simp;done));(case hp => exact (Reps.none _ _))
       intro v321 w24 ho25 hb hg_ hnew_
       clear hg_ hnew_
       (rw [← Ny320.out] at ho25)
       have n0_:=Aside0.mk (Kd.R_lower (Kd.R_newB ho25 (g:=gb319) (o := .cells #[.int .i64 a1_0, .string a1_1, .bool a1_2, .int .i64 a1_3] 26 (0,0)) (by exact BK319.out)) (below_size (by exact HB.out)))
       have n1_:=Aside0.mk (blk_below (g:=gb319) (o := .cells #[.int .i64 a1_0, .string a1_1, .bool a1_2, .int .i64 a1_3] 26 (0,0)) (by exact BK319.out) hb)
       have n2_:=Aside0.mk (below_step (by exact HB.out) hb)
       clear BK319
       clear HB
       have HO322:=n0_
       have BK319:=n1_
       have HB:=n2_
       clear n0_ n1_ n2_
       clear hb ho25
       refine hK.out _ _ ⟨(blk_cell BK319.out 0).trans rfl,(blk_cell BK319.out 1).trans rfl,(blk_cell BK319.out 2).trans rfl,(blk_cell BK319.out 3).trans rfl⟩ (fun hHeld => ?_)
       clear hK K
       refine norm_ (a':=?_) ?_ ?_
       rotate_left
       ·show Act.put _ (some 7) _ = _
        simp only [Act.put,sA_,s0_,s1_,i64_w,i32_w]
        rfl
       refine two_ (i:=2) (j:=4) (Ni:=some 9) (Nj:=some 11) #[true,true,true,true,false,false,false] #[true,true,false,true,true,false,false] rfl rfl rfl rfl (by kernel_rfl) (by decide) (by decide) (fun K hK => ?_) (fun K hK => ?_)
       ·skip
        refine Kd.R_append_rows_step k26 (w0:=w) w.heap.size (by rfl) (.tmp 7) (.tmp 8) 24 26 (.agg #[(.int .i64 0),(.string ⟨#[]⟩),(.bool false),(.int .i64 0)]) 40 rfl Try.underlying24 info26 rfl (by decide) (by omega) v321 y320 l0 _ _ _ (fun k_ => k_ ≠ gb319) (fun _ => False) rfl rfl ?aO ?aR (fun _ _ h => h) (fun _ h => h.elim) ?aF ?aB ?aS ?aL ?_
        (case aR => repeat (exact (Kd.C_below HR0.out HB.out)))
        (case aB => exact (by exact HB.out))
        (case aF => exact (fun k_ hk => Kd.freshB (g:=gb319) (o := .cells #[.int .i64 a1_0, .string a1_1, .bool a1_2, .int .i64 a1_3] 26 (0,0)) (by exact BK319.out) k_ hk))
        (case aO => exact (by exact Kd.R_mono HO322.out (fun _ hk => hk.2)))
        (case aS => exact (below_size (by exact HB.out)))
        (case aL => have:=LMc3.out;omega)
        intro v324 w26 ho hb hg hat
        rw [← Ny323.out] at ho
        have n0_:=Aside0.mk (blk_grown (g:=gb319) (o := .cells #[.int .i64 a1_0, .string a1_1, .bool a1_2, .int .i64 a1_3] 26 (0,0)) (by exact BK319.out) hg (Kd.R_away HO322.out (fun _ hk => hk.2)))
        have n1_:=Aside0.mk (hb)
        have n2_:=Aside0.mk (ho)
        clear BK319
        clear HB
        clear HO322
        have BK319:=n0_
        have HB:=n1_
        have HO325:=n2_
        clear n0_ n1_ n2_
        clear ho hb hg hat
        refine hK.out _ _ ⟨(blk_cell BK319.out 0).trans rfl,(blk_cell BK319.out 1).trans rfl,(blk_cell BK319.out 2).trans rfl,(blk_cell BK319.out 3).trans rfl⟩ (fun hHeld => ?_)
        clear hK K
        refine norm_ (a':=?_) ?_ ?_
        rotate_left
        ·show Act.put _ (some 9) _ = _
         simp only [Act.put,sA_,s0_,s1_,i64_w,i32_w]
         rfl
        refine one_ (i:=4) (N:=some 11) #[true,true,true,true,true,false,false] rfl rfl (by kernel_rfl) (by decide) (fun K hK => ?_)
        refine Kd.R_lit_step k26 _ 26 ?hg (N:=11) ?hd (xs:=([(⟨a1_0,a1_1,a1_2,a1_3⟩ : S26)] : List (S26))) (inner := [.int .i64 a1_0, .string a1_1, .bool a1_2, .int .i64 a1_3]) (ok:=fun _ => True) (okp:=fun _ => True) ?hr ?hp (fun _ hk => hk) trivial (Below.refl _ _) (Nat.le_refl _) (by simp) ?_;(case hd => rfl);(case hg => rfl);(case hr => (go_simp;done));(case hp => exact (Reps.c4 (show Kd.M k26 _ _ _ (⟨a1_0,a1_1,a1_2,a1_3⟩ : S26) [.int .i64 a1_0, .string a1_1, .bool a1_2, .int .i64 a1_3] from (k26_mkM _ _ _ (⟨a1_0,a1_1,a1_2,a1_3⟩ : S26) )) (Reps.none _ _)))
        intro v327 w27 ho28 hb hg_ hnew_
        clear hg_ hnew_
        (rw [← Ny326.out] at ho28)
        have n0_:=Aside0.mk (Kd.R_elder' (by exact HO325.out) (Kd.R_base ho28) hb)
        have n1_:=Aside0.mk (Kd.R_lower (Kd.R_newB (Kd.R_new' ho28 (Kd.R_lt (by exact HO325.out))) (g:=gb319) (o := .cells #[.int .i64 a1_0, .string a1_1, .bool a1_2, .int .i64 a1_3] 26 (0,0)) (by exact BK319.out)) (below_size (by exact HB.out)))
        have n2_:=Aside0.mk (blk_below (g:=gb319) (o := .cells #[.int .i64 a1_0, .string a1_1, .bool a1_2, .int .i64 a1_3] 26 (0,0)) (by exact BK319.out) hb)
        have n3_:=Aside0.mk (below_step (by exact HB.out) hb)
        clear HO325
        clear BK319
        clear HB
        have HO325:=n0_
        have HO328:=n1_
        have BK319:=n2_
        have HB:=n3_
        clear n0_ n1_ n2_ n3_
        clear hb ho28
        refine hK.out _ _ ⟨(blk_cell BK319.out 0).trans rfl,(blk_cell BK319.out 1).trans rfl,(blk_cell BK319.out 2).trans rfl,(blk_cell BK319.out 3).trans rfl⟩ (fun hHeld => ?_)
        clear hK K
        refine norm_ (a':=?_) ?_ ?_
        rotate_left
        ·show Act.put _ (some 11) _ = _
         simp only [Act.put,sA_,s0_,s1_,i64_w,i32_w]
         rfl
        exact norm_ (by simp only [putAll,Act.put,sA_,s0_,s1_]) (hCont (v321,v324,v327) _ ⟨hHeld,(by exact Kd.R_mono HO325.out (fun _ hk => ⟨hk.2,hk.1⟩)),(by exact Kd.R_mono HO328.out (fun _ hk => ⟨hk.1.2,hk.2⟩)),(by exact BK319.out),(by exact HB.out)⟩)
       ·skip
        refine Kd.R_lit_step k26 _ 26 ?hg (N:=11) ?hd (xs:=([(⟨a1_0,a1_1,a1_2,a1_3⟩ : S26)] : List (S26))) (inner := [.int .i64 a1_0, .string a1_1, .bool a1_2, .int .i64 a1_3]) (ok:=fun _ => True) (okp:=fun _ => True) ?hr ?hp (fun _ hk => hk) trivial (Below.refl _ _) (Nat.le_refl _) (by simp) ?_;(case hd => rfl);(case hg => rfl);(case hr => (go_simp;done));(case hp => exact (Reps.c4 (show Kd.M k26 _ _ _ (⟨a1_0,a1_1,a1_2,a1_3⟩ : S26) [.int .i64 a1_0, .string a1_1, .bool a1_2, .int .i64 a1_3] from (k26_mkM _ _ _ (⟨a1_0,a1_1,a1_2,a1_3⟩ : S26) )) (Reps.none _ _)))
        intro v327 w26 ho27 hb hg_ hnew_
        clear hg_ hnew_
        (rw [← Ny326.out] at ho27)
        have n0_:=Aside0.mk (Kd.R_elder' (by exact HO322.out) (Kd.R_base ho27) hb)
        have n1_:=Aside0.mk (Kd.R_lower (Kd.R_newB (Kd.R_new' ho27 (Kd.R_lt (by exact HO322.out))) (g:=gb319) (o := .cells #[.int .i64 a1_0, .string a1_1, .bool a1_2, .int .i64 a1_3] 26 (0,0)) (by exact BK319.out)) (below_size (by exact HB.out)))
        have n2_:=Aside0.mk (blk_below (g:=gb319) (o := .cells #[.int .i64 a1_0, .string a1_1, .bool a1_2, .int .i64 a1_3] 26 (0,0)) (by exact BK319.out) hb)
        have n3_:=Aside0.mk (below_step (by exact HB.out) hb)
        clear HO322
        clear BK319
        clear HB
        have HO322:=n0_
        have HO328:=n1_
        have BK319:=n2_
        have HB:=n3_
        clear n0_ n1_ n2_ n3_
        clear hb ho27
        refine hK.out _ _ ⟨(blk_cell BK319.out 0).trans rfl,(blk_cell BK319.out 1).trans rfl,(blk_cell BK319.out 2).trans rfl,(blk_cell BK319.out 3).trans rfl⟩ (fun hHeld => ?_)
        clear hK K
        refine norm_ (a':=?_) ?_ ?_
        rotate_left
        ·show Act.put _ (some 11) _ = _
         simp only [Act.put,sA_,s0_,s1_,i64_w,i32_w]
         rfl
        refine one_ (i:=2) (N:=some 9) #[true,true,true,true,true,false,false] rfl rfl (by kernel_rfl) (by decide) (fun K hK => ?_)
        refine Kd.R_append_rows_step k26 (w0:=w) w.heap.size (by rfl) (.tmp 7) (.tmp 8) 24 26 (.agg #[(.int .i64 0),(.string ⟨#[]⟩),(.bool false),(.int .i64 0)]) 40 rfl Try.underlying24 info26 rfl (by decide) (by omega) v321 y320 l0 _ _ _ (fun k_ => some k_ ≠ (v327 : Value).ownBlock ∧ k_ ≠ gb319) (fun _ => False) rfl rfl ?aO ?aR (fun _ _ h => h) (fun _ h => h.elim) ?aF ?aB ?aS ?aL ?_
        (case aR => repeat (exact (Kd.C_below HR0.out HB.out)))
        (case aB => exact (by exact HB.out))
        (case aF => exact (fun k_ hk => ⟨Kd.fresh' (Kd.R_lt (by exact HO328.out)) k_ hk,Kd.freshB (g:=gb319) (o := .cells #[.int .i64 a1_0, .string a1_1, .bool a1_2, .int .i64 a1_3] 26 (0,0)) (by exact BK319.out) k_ hk⟩))
        (case aO => exact (by exact Kd.R_mono HO322.out (fun _ hk => ⟨hk.2,hk.1.2⟩)))
        (case aS => exact (below_size (by exact HB.out)))
        (case aL => have:=LMc3.out;omega)
        intro v324 w28 ho hb hg hat
        rw [← Ny323.out] at ho
        have n0_:=Aside0.mk (blk_grown (g:=gb319) (o := .cells #[.int .i64 a1_0, .string a1_1, .bool a1_2, .int .i64 a1_3] 26 (0,0)) (by exact BK319.out) hg (Kd.R_away HO322.out (fun _ hk => hk.1.2)))
        have n1_:=Aside0.mk (Kd.R_after (ok:=(fun k_ => k_ ≠ gb319)) (by exact Kd.R_mono HO328.out (fun _ hk => ⟨hk.2,hk.1.2⟩)) hg hat)
        have n2_:=Aside0.mk (hb)
        have n3_:=Aside0.mk (ho)
        clear BK319
        clear HO328
        clear HB
        clear HO322
        have BK319:=n0_
        have HO328:=n1_
        have HB:=n2_
        have HO325:=n3_
        clear n0_ n1_ n2_ n3_
        clear ho hb hg hat
        refine hK.out _ _ ⟨(blk_cell BK319.out 0).trans rfl,(blk_cell BK319.out 1).trans rfl,(blk_cell BK319.out 2).trans rfl,(blk_cell BK319.out 3).trans rfl⟩ (fun hHeld => ?_)
        clear hK K
        refine norm_ (a':=?_) ?_ ?_
        rotate_left
        ·show Act.put _ (some 9) _ = _
         simp only [Act.put,sA_,s0_,s1_,i64_w,i32_w]
         rfl
        exact norm_ (by simp only [putAll,Act.put,sA_,s0_,s1_]) (hCont (v321,v324,v327) _ ⟨hHeld,(by exact HO325.out),(by exact Kd.R_mono HO328.out (fun _ hk => ⟨hk.2,hk.1⟩)),(by exact BK319.out),(by exact HB.out)⟩)
      ·skip
       refine Kd.R_lit_step k26 _ 26 ?hg (N:=11) ?hd (xs:=([(⟨a1_0,a1_1,a1_2,a1_3⟩ : S26)] : List (S26))) (inner := [.int .i64 a1_0, .string a1_1, .bool a1_2, .int .i64 a1_3]) (ok:=fun _ => True) (okp:=fun _ => True) ?hr ?hp (fun _ hk => hk) trivial (Below.refl _ _) (Nat.le_refl _) (by simp) ?_;(case hd => rfl);(case hg => rfl);(case hr => (go_simp;done));(case hp => exact (Reps.c4 (show Kd.M k26 _ _ _ (⟨a1_0,a1_1,a1_2,a1_3⟩ : S26) [.int .i64 a1_0, .string a1_1, .bool a1_2, .int .i64 a1_3] from (k26_mkM _ _ _ (⟨a1_0,a1_1,a1_2,a1_3⟩ : S26) )) (Reps.none _ _)))
       intro v327 w24 ho25 hb hg_ hnew_
       clear hg_ hnew_
       (rw [← Ny326.out] at ho25)
       have n0_:=Aside0.mk (Kd.R_lower (Kd.R_newB ho25 (g:=gb319) (o := .cells #[.int .i64 a1_0, .string a1_1, .bool a1_2, .int .i64 a1_3] 26 (0,0)) (by exact BK319.out)) (below_size (by exact HB.out)))
       have n1_:=Aside0.mk (blk_below (g:=gb319) (o := .cells #[.int .i64 a1_0, .string a1_1, .bool a1_2, .int .i64 a1_3] 26 (0,0)) (by exact BK319.out) hb)
       have n2_:=Aside0.mk (below_step (by exact HB.out) hb)
       clear BK319
       clear HB
       have HO328:=n0_
       have BK319:=n1_
       have HB:=n2_
       clear n0_ n1_ n2_
       clear hb ho25
       refine hK.out _ _ ⟨(blk_cell BK319.out 0).trans rfl,(blk_cell BK319.out 1).trans rfl,(blk_cell BK319.out 2).trans rfl,(blk_cell BK319.out 3).trans rfl⟩ (fun hHeld => ?_)
       clear hK K
       refine norm_ (a':=?_) ?_ ?_
       rotate_left
       ·show Act.put _ (some 11) _ = _
        simp only [Act.put,sA_,s0_,s1_,i64_w,i32_w]
        rfl
       refine one_ (i:=0) (N:=some 7) #[true,true,false,true,true,false,false] rfl rfl (by kernel_rfl) (by decide) (fun K hK => ?_)
       refine Kd.R_lit_step k26 _ 26 ?hg (N:=7) ?hd (xs:=([] : List (S26))) (inner := []) (ok:=fun _ => True) (okp:=fun _ => True) ?hr ?hp (fun _ hk => hk) trivial (Below.refl _ _) (Nat.le_refl _) (by simp) ?_;(case hd => rfl);(case hg => rfl);(case hr => (go_simp;done));(case hp => exact (Reps.none _ _))
       intro v321 w26 ho27 hb hg_ hnew_
       clear hg_ hnew_
       (rw [← Ny320.out] at ho27)
       have n0_:=Aside0.mk (Kd.R_elder' (by exact HO328.out) (Kd.R_base ho27) hb)
       have n1_:=Aside0.mk (Kd.R_lower (Kd.R_newB (Kd.R_new' ho27 (Kd.R_lt (by exact HO328.out))) (g:=gb319) (o := .cells #[.int .i64 a1_0, .string a1_1, .bool a1_2, .int .i64 a1_3] 26 (0,0)) (by exact BK319.out)) (below_size (by exact HB.out)))
       have n2_:=Aside0.mk (blk_below (g:=gb319) (o := .cells #[.int .i64 a1_0, .string a1_1, .bool a1_2, .int .i64 a1_3] 26 (0,0)) (by exact BK319.out) hb)
       have n3_:=Aside0.mk (below_step (by exact HB.out) hb)
       clear HO328
       clear BK319
       clear HB
       have HO328:=n0_
       have HO322:=n1_
       have BK319:=n2_
       have HB:=n3_
       clear n0_ n1_ n2_ n3_
       clear hb ho27
       refine hK.out _ _ ⟨(blk_cell BK319.out 0).trans rfl,(blk_cell BK319.out 1).trans rfl,(blk_cell BK319.out 2).trans rfl,(blk_cell BK319.out 3).trans rfl⟩ (fun hHeld => ?_)
       clear hK K
       refine norm_ (a':=?_) ?_ ?_
       rotate_left
       ·show Act.put _ (some 7) _ = _
        simp only [Act.put,sA_,s0_,s1_,i64_w,i32_w]
        rfl
       refine one_ (i:=2) (N:=some 9) #[true,true,true,true,true,false,false] rfl rfl (by kernel_rfl) (by decide) (fun K hK => ?_)
       refine Kd.R_append_rows_step k26 (w0:=w) w.heap.size (by rfl) (.tmp 7) (.tmp 8) 24 26 (.agg #[(.int .i64 0),(.string ⟨#[]⟩),(.bool false),(.int .i64 0)]) 40 rfl Try.underlying24 info26 rfl (by decide) (by omega) v321 y320 l0 _ _ _ (fun k_ => some k_ ≠ (v327 : Value).ownBlock ∧ k_ ≠ gb319) (fun _ => False) rfl rfl ?aO ?aR (fun _ _ h => h) (fun _ h => h.elim) ?aF ?aB ?aS ?aL ?_
       (case aR => repeat (exact (Kd.C_below HR0.out HB.out)))
       (case aB => exact (by exact HB.out))
       (case aF => exact (fun k_ hk => ⟨Kd.fresh' (Kd.R_lt (by exact HO328.out)) k_ hk,Kd.freshB (g:=gb319) (o := .cells #[.int .i64 a1_0, .string a1_1, .bool a1_2, .int .i64 a1_3] 26 (0,0)) (by exact BK319.out) k_ hk⟩))
       (case aO => exact (by exact Kd.R_mono HO322.out (fun _ hk => ⟨hk.1.2,hk.2⟩)))
       (case aS => exact (below_size (by exact HB.out)))
       (case aL => have:=LMc3.out;omega)
       intro v324 w28 ho hb hg hat
       rw [← Ny323.out] at ho
       have n0_:=Aside0.mk (blk_grown (g:=gb319) (o := .cells #[.int .i64 a1_0, .string a1_1, .bool a1_2, .int .i64 a1_3] 26 (0,0)) (by exact BK319.out) hg (Kd.R_away HO322.out (fun _ hk => hk.2)))
       have n1_:=Aside0.mk (Kd.R_after (ok:=(fun k_ => k_ ≠ gb319)) (by exact Kd.R_mono HO328.out (fun _ hk => ⟨hk.1.2,hk.2⟩)) hg hat)
       have n2_:=Aside0.mk (hb)
       have n3_:=Aside0.mk (ho)
       clear BK319
       clear HO328
       clear HB
       clear HO322
       have BK319:=n0_
       have HO328:=n1_
       have HB:=n2_
       have HO325:=n3_
       clear n0_ n1_ n2_ n3_
       clear ho hb hg hat
       refine hK.out _ _ ⟨(blk_cell BK319.out 0).trans rfl,(blk_cell BK319.out 1).trans rfl,(blk_cell BK319.out 2).trans rfl,(blk_cell BK319.out 3).trans rfl⟩ (fun hHeld => ?_)
       clear hK K
       refine norm_ (a':=?_) ?_ ?_
       rotate_left
       ·show Act.put _ (some 9) _ = _
        simp only [Act.put,sA_,s0_,s1_,i64_w,i32_w]
        rfl
       exact norm_ (by simp only [putAll,Act.put,sA_,s0_,s1_]) (hCont (v321,v324,v327) _ ⟨hHeld,(by exact HO325.out),(by exact Kd.R_mono HO328.out (fun _ hk => ⟨hk.2,hk.1⟩)),(by exact BK319.out),(by exact HB.out)⟩)
     rintro ⟨v321,v324,v327⟩ w29 ⟨hS_,h0_,h1_,h2_,h3_⟩
     have n0_ : Aside0 (Kd.R k26 26 w29 w.heap.size (fun k_ => some k_ ≠ (v327 : Value).ownBlock ∧ k_ ≠ gb319) v324 y323):=⟨h0_⟩
     have n1_ : Aside0 (Kd.R k26 26 w29 w.heap.size (fun k_ => some k_ ≠ (v324 : Value).ownBlock ∧ k_ ≠ gb319) v327 y326):=⟨h1_⟩
     have n2_ : Aside0 (w29.heap[gb319]? = some (.cells #[.int .i64 a1_0, .string a1_1, .bool a1_2, .int .i64 a1_3] 26 (0,0))):=⟨h2_⟩
     have n3_ : Aside0 (Below w.heap.size w w29):=⟨h3_⟩
     clear BK319
     clear HB
     clear h0_ h1_ h2_ h3_
     have HO325:=n0_
     have HO328:=n1_
     have BK319:=n2_
     have HB:=n3_
     clear n0_ n1_ n2_ n3_
     have hHeld : w29.cell? ⟨gb319,0,none⟩ = some (.int .i64 a1_0) ∧ w29.cell? ⟨gb319,1,none⟩ = some (.string a1_1) ∧ w29.cell? ⟨gb319,2,none⟩ = some (.bool a1_2) ∧ w29.cell? ⟨gb319,3,none⟩ = some (.int .i64 a1_3):=hS_
     obtain ⟨Ao31,co31,eo31⟩ := Kd.R_slice HO328.out
     (subst eo31)
     refine norm_ (a':=?_) ?_ ?_
     rotate_left
     ·simp only [putAll,Act.put,sA_,s0_,s1_]
      rfl
     refine one_ (i:=5) (N:=some 12) #[true,true,true,true,true,true,false] rfl rfl (by kernel_rfl) (by decide) (fun K hK => ?_)
     refine Kd.R_append_rows_step k26 (w0:=w) w.heap.size (by rfl) (.tmp 9) (.tmp 11) 24 26 (.agg #[(.int .i64 0),(.string ⟨#[]⟩),(.bool false),(.int .i64 0)]) 40 rfl Try.underlying24 info26 rfl (by decide) (by omega) v324 y323 y326 _ _ _ (fun k_ => some k_ ≠ (.slice Ao31 y326.length co31 : Value).ownBlock ∧ k_ ≠ gb319) (fun _ => False) rfl rfl ?aO ?aR (fun _ _ h => h) (fun _ h => h.elim) ?aF ?aB ?aS ?aL ?_
     (case aR => repeat (exact (Kd.R_reads' HO328.out).2.2))
     (case aB => exact (by exact HB.out))
     (case aF => exact (fun k_ hk => ⟨Kd.fresh' (Kd.R_lt (by exact HO328.out)) k_ hk,Kd.freshB (g:=gb319) (o := .cells #[.int .i64 a1_0, .string a1_1, .bool a1_2, .int .i64 a1_3] 26 (0,0)) (by exact BK319.out) k_ hk⟩))
     (case aO => exact (by exact HO325.out))
     (case aS => exact (below_size (by exact HB.out)))
     (case aL => have:=LMc4.out;omega)
     intro v330 w30 ho hb hg hat
     rw [← Ny329.out] at ho
     have n0_:=Aside0.mk (blk_grown (g:=gb319) (o := .cells #[.int .i64 a1_0, .string a1_1, .bool a1_2, .int .i64 a1_3] 26 (0,0)) (by exact BK319.out) hg (Kd.R_away HO325.out (fun _ hk => hk.2)))
     have n1_:=Aside0.mk (Kd.R_after (ok:=(fun k_ => k_ ≠ gb319)) (by exact Kd.R_mono HO328.out (fun _ hk => ⟨hk.2,hk.1⟩)) hg hat)
     have n2_:=Aside0.mk (hb)
     have n3_:=Aside0.mk (ho)
     clear BK319
     clear HO328
     clear HB
     clear HO325
     have BK319:=n0_
     have HO328:=n1_
     have HB:=n2_
     have HO331:=n3_
     clear n0_ n1_ n2_ n3_
     clear ho hb hg hat
     refine hK.out _ _ ⟨(blk_cell BK319.out 0).trans rfl,(blk_cell BK319.out 1).trans rfl,(blk_cell BK319.out 2).trans rfl,(blk_cell BK319.out 3).trans rfl⟩ (fun hHeld => ?_)
     clear hK K
     refine norm_ (a':=?_) ?_ ?_
     rotate_left
     ·show Act.put _ (some 12) _ = _
      simp only [Act.put,sA_,s0_,s1_,i64_w,i32_w]
      rfl
     refine pure_ (i:=6) (N:=some 6) (v:=?_) (a':=?_) #[true,true,true,true,true,true,true] rfl rfl (by kernel_rfl) (fun _ _ _ h => h) (Or.inl ⟨by rfl, ?_⟩) ?_ ?_
     rotate_left
     ·intro w'
      go_simp
      with_reducible rfl
     rotate_left
     ·simp only [Act.put,sA_,s0_,s1_,i64_w,i32_w]
      rfl
     refine done_ (by kernel_rfl) ?_
     try go_wp2_with (first | ((with_reducible refine gate_callee (f:=25) rfl ?_);refine goesL_ (some 14) rfl rfl Try.func25 (by kernel_rfl) rfl #[.slice A0 l0.length c0] rfl (by (try simp only [List.map_toArray,List.map_cons,List.map_nil]);rfl) ?_;(with_reducible refine (spec_l20Good.calls k _ _ l0 true _ ?side1 ?side2 A5.out).mono ?_);(case side1 => repeat (exact (Kd.C_below HR0.out HB.out)));(case side2 => exact HC0.out);rintro e w32 ⟨rfl,hb⟩;refine ⟨_,rfl, ?_⟩;have n0_:=Aside0.mk (Kd.R_below (by exact HO328.out) hb);have n1_:=Aside0.mk (Kd.R_below (by exact HO331.out) hb);have n2_:=Aside0.mk (blk_below (g:=gb319) (o := .cells #[.int .i64 a1_0, .string a1_1, .bool a1_2, .int .i64 a1_3] 26 (0,0)) (by exact BK319.out) hb);have n3_:=Aside0.mk (below_step (by exact HB.out) hb);clear HO328;clear HO331;clear BK319;clear HB;have HO328:=n0_;have HO331:=n1_;have BK319:=n2_;have HB:=n3_;clear n0_ n1_ n2_ n3_;(try clear hb);obtain ⟨Ao33,co33,eo33⟩ := Kd.R_slice HO331.out;subst eo33) | (go_at_call 25;(with_reducible refine (spec_l20Good.calls k _ _ y329 false _ ?side1 ?side2 A7.out).mono ?_);(case side1 => repeat (exact (Kd.R_reads' HO331.out).2.2));(case side2 => exact (Kd.R_reads' HO331.out).2.1);rintro e w34 ⟨rfl,hb⟩;have n0_:=Aside0.mk (Kd.R_below (by exact HO328.out) hb);have n1_:=Aside0.mk (Kd.R_below (by exact HO331.out) hb);have n2_:=Aside0.mk (blk_below (g:=gb319) (o := .cells #[.int .i64 a1_0, .string a1_1, .bool a1_2, .int .i64 a1_3] 26 (0,0)) (by exact BK319.out) hb);have n3_:=Aside0.mk (below_step (by exact HB.out) hb);clear HO328;clear HO331;clear BK319;clear HB;have HO328:=n0_;have HO331:=n1_;have BK319:=n2_;have HB:=n3_;clear n0_ n1_ n2_ n3_;(try clear hb)) | ((with_reducible refine gate_dst (N:=21) rfl ?_);refine Kd.R_lit k26 _ 26 ?hg (N:=21) ?hd (xs:=([] : List (S26))) (inner := []) (ok:=fun _ => True) (okp:=fun _ => True) ?hr ?hp (fun _ hk => hk) trivial (Below.refl _ _) (Nat.le_refl _) (by simp) ?_;(case hd => rfl);(case hg => rfl);(case hr => (go_simp;done));(case hp => exact (Reps.none _ _));intro v335 w35 ho36 hb hg_ hnew_;clear hg_ hnew_;(rw [← Ny334.out] at ho36);have n0_:=Aside0.mk (Kd.R_elder' (by exact HO328.out) (Kd.R_base ho36) hb);have n1_:=Aside0.mk (Kd.R_elder' (by exact HO331.out) (Kd.R_base ho36) hb);have n2_:=Aside0.mk (Kd.R_lower (Kd.R_newB (Kd.R_new' (Kd.R_new' ho36 (Kd.R_lt (by exact HO328.out))) (Kd.R_lt (by exact HO331.out))) (g:=gb319) (o := .cells #[.int .i64 a1_0, .string a1_1, .bool a1_2, .int .i64 a1_3] 26 (0,0)) (by exact BK319.out)) (below_size (by exact HB.out)));have n3_:=Aside0.mk (blk_below (g:=gb319) (o := .cells #[.int .i64 a1_0, .string a1_1, .bool a1_2, .int .i64 a1_3] 26 (0,0)) (by exact BK319.out) hb);have n4_:=Aside0.mk (below_step (by exact HB.out) hb);clear HO328;clear HO331;clear BK319;clear HB;have HO328:=n0_;have HO331:=n1_;have HO336:=n2_;have BK319:=n3_;have HB:=n4_;clear n0_ n1_ n2_ n3_ n4_;clear hb ho36))
     go_ret2
     exact ⟨_,by rfl,by exact Kd.R_mono HO336.out (fun _ hk => trivial),by exact HB.out⟩
   ·replace c6:=Bool.eq_false_iff.mpr c6
    subst c6
    have H1 : (some ((([] : List (S26))),false)) = some (r1,r2):=by rw [if_neg (show ¬ (false = true) by decide)] at H;exact H
    clear H
    have H:=H1
    clear H1
    obtain ⟨y337,hy337⟩ : ∃ y_ : List (S26),y_ = (([] : List (S26))):=⟨_,rfl⟩
    replace H : (some (y337,false)) = some (r1,r2):=by (rw [hy337];with_reducible exact H)
    have Ny337:=Aside0.mk hy337
    clear hy337
    simp only [Option.some.injEq,Prod.mk.injEq] at H
    obtain ⟨rfl,rfl⟩ := H
    go_enter Try.func7,Try.ntmps7
    try go_wp2_with (((with_reducible refine gate_dst (N:=3) rfl ?_);refine box_event ?hg (N:=3) ?hd (cs:=#[.int .i64 a1_0, .string a1_1, .bool a1_2, .int .i64 a1_3]) (t:=26) ?hr ?_;(case hd => rfl);(case hg => rfl);(case hr => (go_simp;done));intro gb319 hg w37 hbox hb;have n0_:=Aside0.mk (below_step (by exact HB.out) hb);have n1_:=Aside0.mk (hbox);have n2_:=Aside0.mk ((by rw [hg];exact (below_size (by exact HB.out)) : w.heap.size ≤ gb319));have n3_:=Aside0.mk ((by rw [hg];exact (below_size (by exact HB.out)) : w.heap.size ≤ gb319));clear HB;have HB:=n0_;have BK319:=n1_;have GW319:=n2_;have GE319:=n3_;clear n0_ n1_ n2_ n3_;clear hb hbox hg))
    have n0_:=Aside0.mk (blk_drew BK319.out)
    have n1_:=Aside0.mk (below_drew1 HB.out)
    clear BK319
    clear HB
    have BK319:=n0_
    have HB:=n1_
    clear n0_ n1_
    refine start_ (n:=7) (S:=fun w' => w'.cell? ⟨gb319,0,none⟩ = some (.int .i64 a1_0) ∧ w'.cell? ⟨gb319,1,none⟩ = some (.string a1_1) ∧ w'.cell? ⟨gb319,2,none⟩ = some (.bool a1_2) ∧ w'.cell? ⟨gb319,3,none⟩ = some (.int .i64 a1_3)) (ds := []) #[false,false,false,false,false,false,false] (by kernel_rfl) rfl rfl ⟨(blk_cell BK319.out 0).trans rfl,(blk_cell BK319.out 1).trans rfl,(blk_cell BK319.out 2).trans rfl,(blk_cell BK319.out 3).trans rfl⟩ (fun hHeld => ?_)
    generalize w37.drew = w38 at BK319 HB hHeld ⊢
    refine pure_ (i:=1) (N:=some 8) (v:=?_) (a':=?_) #[false,true,false,false,false,false,false] rfl rfl (by kernel_rfl) (fun _ _ _ h => h) (Or.inl ⟨by rfl, ?_⟩) ?_ ?_
    rotate_left
    ·intro w'
     go_simp
     with_reducible rfl
    rotate_left
    ·simp only [Act.put,sA_,s0_,s1_,i64_w,i32_w]
     rfl
    refine take_ (i:=3) (N:=some 10) (v:=?_) (a':=?_) #[false,true,false,true,false,false,false] rfl rfl (by kernel_rfl) (fun _ _ _ h => h) (Or.inl ⟨by rfl, ?_⟩) hHeld ?_ ?_
    rotate_left
    ·rintro w' ⟨s0,s1,s2,s3⟩
     go_simp
     with_reducible rfl
    rotate_left
    ·simp only [Act.put,sA_,s0_,s1_,i64_w,i32_w]
     rfl
    refine join_ (σ:=Value × Value × Value) 2 #[true,true,true,true,true,false,false] (fun s_ => [(7,s_.1),(9,s_.2.1),(11,s_.2.2)]) (fun s_ w' => (w'.cell? ⟨gb319,0,none⟩ = some (.int .i64 a1_0) ∧ w'.cell? ⟨gb319,1,none⟩ = some (.string a1_1) ∧ w'.cell? ⟨gb319,2,none⟩ = some (.bool a1_2) ∧ w'.cell? ⟨gb319,3,none⟩ = some (.int .i64 a1_3)) ∧ (Kd.R k26 26 w' w.heap.size (fun k_ => some k_ ≠ (s_.2.2 : Value).ownBlock ∧ k_ ≠ gb319) s_.2.1 y323) ∧ (Kd.R k26 26 w' w.heap.size (fun k_ => some k_ ≠ (s_.2.1 : Value).ownBlock ∧ k_ ≠ gb319) s_.2.2 y326) ∧ (w'.heap[gb319]? = some (.cells #[.int .i64 a1_0, .string a1_1, .bool a1_2, .int .i64 a1_3] 26 (0,0))) ∧ (Below w.heap.size w w')) ?_ ?_
    rotate_left
    ·intro hCont
     refine two_ (i:=0) (j:=4) (Ni:=some 7) (Nj:=some 11) #[true,true,false,true,false,false,false] #[false,true,false,true,true,false,false] rfl rfl rfl rfl (by kernel_rfl) (by decide) (by decide) (fun K hK => ?_) (fun K hK => ?_)
     ·skip
      refine Kd.R_lit_step k26 _ 26 ?hg (N:=7) ?hd (xs:=([] : List (S26))) (inner := []) (ok:=fun _ => True) (okp:=fun _ => True) ?hr ?hp (fun _ hk => hk) trivial (Below.refl _ _) (Nat.le_refl _) (by simp) ?_;(case hd => rfl);(case hg => rfl);(case hr => (go_simp;done));(case hp => exact (Reps.none _ _))
      intro v321 w39 ho40 hb hg_ hnew_
      clear hg_ hnew_
      (rw [← Ny320.out] at ho40)
      have n0_:=Aside0.mk (Kd.R_lower (Kd.R_newB ho40 (g:=gb319) (o := .cells #[.int .i64 a1_0, .string a1_1, .bool a1_2, .int .i64 a1_3] 26 (0,0)) (by exact BK319.out)) (below_size (by exact HB.out)))
      have n1_:=Aside0.mk (blk_below (g:=gb319) (o := .cells #[.int .i64 a1_0, .string a1_1, .bool a1_2, .int .i64 a1_3] 26 (0,0)) (by exact BK319.out) hb)
      have n2_:=Aside0.mk (below_step (by exact HB.out) hb)
      clear BK319
      clear HB
      have HO322:=n0_
      have BK319:=n1_
      have HB:=n2_
      clear n0_ n1_ n2_
      clear hb ho40
      refine hK.out _ _ ⟨(blk_cell BK319.out 0).trans rfl,(blk_cell BK319.out 1).trans rfl,(blk_cell BK319.out 2).trans rfl,(blk_cell BK319.out 3).trans rfl⟩ (fun hHeld => ?_)
      clear hK K
      refine norm_ (a':=?_) ?_ ?_
      rotate_left
      ·show Act.put _ (some 7) _ = _
       simp only [Act.put,sA_,s0_,s1_,i64_w,i32_w]
       rfl
      refine two_ (i:=2) (j:=4) (Ni:=some 9) (Nj:=some 11) #[true,true,true,true,false,false,false] #[true,true,false,true,true,false,false] rfl rfl rfl rfl (by kernel_rfl) (by decide) (by decide) (fun K hK => ?_) (fun K hK => ?_)
      ·skip
       refine Kd.R_append_rows_step k26 (w0:=w) w.heap.size (by rfl) (.tmp 7) (.tmp 8) 24 26 (.agg #[(.int .i64 0),(.string ⟨#[]⟩),(.bool false),(.int .i64 0)]) 40 rfl Try.underlying24 info26 rfl (by decide) (by omega) v321 y320 l0 _ _ _ (fun k_ => k_ ≠ gb319) (fun _ => False) rfl rfl ?aO ?aR (fun _ _ h => h) (fun _ h => h.elim) ?aF ?aB ?aS ?aL ?_
       (case aR => repeat (exact (Kd.C_below HR0.out HB.out)))
       (case aB => exact (by exact HB.out))
       (case aF => exact (fun k_ hk => Kd.freshB (g:=gb319) (o := .cells #[.int .i64 a1_0, .string a1_1, .bool a1_2, .int .i64 a1_3] 26 (0,0)) (by exact BK319.out) k_ hk))
       (case aO => exact (by exact Kd.R_mono HO322.out (fun _ hk => hk.2)))
       (case aS => exact (below_size (by exact HB.out)))
       (case aL => have:=LMc3.out;omega)
       intro v324 w41 ho hb hg hat
       rw [← Ny323.out] at ho
       have n0_:=Aside0.mk (blk_grown (g:=gb319) (o := .cells #[.int .i64 a1_0, .string a1_1, .bool a1_2, .int .i64 a1_3] 26 (0,0)) (by exact BK319.out) hg (Kd.R_away HO322.out (fun _ hk => hk.2)))
       have n1_:=Aside0.mk (hb)
       have n2_:=Aside0.mk (ho)
       clear BK319
       clear HB
       clear HO322
       have BK319:=n0_
       have HB:=n1_
       have HO325:=n2_
       clear n0_ n1_ n2_
       clear ho hb hg hat
       refine hK.out _ _ ⟨(blk_cell BK319.out 0).trans rfl,(blk_cell BK319.out 1).trans rfl,(blk_cell BK319.out 2).trans rfl,(blk_cell BK319.out 3).trans rfl⟩ (fun hHeld => ?_)
       clear hK K
       refine norm_ (a':=?_) ?_ ?_
       rotate_left
       ·show Act.put _ (some 9) _ = _
        simp only [Act.put,sA_,s0_,s1_,i64_w,i32_w]
        rfl
       refine one_ (i:=4) (N:=some 11) #[true,true,true,true,true,false,false] rfl rfl (by kernel_rfl) (by decide) (fun K hK => ?_)
       refine Kd.R_lit_step k26 _ 26 ?hg (N:=11) ?hd (xs:=([(⟨a1_0,a1_1,a1_2,a1_3⟩ : S26)] : List (S26))) (inner := [.int .i64 a1_0, .string a1_1, .bool a1_2, .int .i64 a1_3]) (ok:=fun _ => True) (okp:=fun _ => True) ?hr ?hp (fun _ hk => hk) trivial (Below.refl _ _) (Nat.le_refl _) (by simp) ?_;(case hd => rfl);(case hg => rfl);(case hr => (go_simp;done));(case hp => exact (Reps.c4 (show Kd.M k26 _ _ _ (⟨a1_0,a1_1,a1_2,a1_3⟩ : S26) [.int .i64 a1_0, .string a1_1, .bool a1_2, .int .i64 a1_3] from (k26_mkM _ _ _ (⟨a1_0,a1_1,a1_2,a1_3⟩ : S26) )) (Reps.none _ _)))
       intro v327 w42 ho43 hb hg_ hnew_
       clear hg_ hnew_
       (rw [← Ny326.out] at ho43)
       have n0_:=Aside0.mk (Kd.R_elder' (by exact HO325.out) (Kd.R_base ho43) hb)
       have n1_:=Aside0.mk (Kd.R_lower (Kd.R_newB (Kd.R_new' ho43 (Kd.R_lt (by exact HO325.out))) (g:=gb319) (o := .cells #[.int .i64 a1_0, .string a1_1, .bool a1_2, .int .i64 a1_3] 26 (0,0)) (by exact BK319.out)) (below_size (by exact HB.out)))
       have n2_:=Aside0.mk (blk_below (g:=gb319) (o := .cells #[.int .i64 a1_0, .string a1_1, .bool a1_2, .int .i64 a1_3] 26 (0,0)) (by exact BK319.out) hb)
       have n3_:=Aside0.mk (below_step (by exact HB.out) hb)
       clear HO325
       clear BK319
       clear HB
       have HO325:=n0_
       have HO328:=n1_
       have BK319:=n2_
       have HB:=n3_
       clear n0_ n1_ n2_ n3_
       clear hb ho43
       refine hK.out _ _ ⟨(blk_cell BK319.out 0).trans rfl,(blk_cell BK319.out 1).trans rfl,(blk_cell BK319.out 2).trans rfl,(blk_cell BK319.out 3).trans rfl⟩ (fun hHeld => ?_)
       clear hK K
       refine norm_ (a':=?_) ?_ ?_
       rotate_left
       ·show Act.put _ (some 11) _ = _
        simp only [Act.put,sA_,s0_,s1_,i64_w,i32_w]
        rfl
       exact norm_ (by simp only [putAll,Act.put,sA_,s0_,s1_]) (hCont (v321,v324,v327) _ ⟨hHeld,(by exact Kd.R_mono HO325.out (fun _ hk => ⟨hk.2,hk.1⟩)),(by exact Kd.R_mono HO328.out (fun _ hk => ⟨hk.1.2,hk.2⟩)),(by exact BK319.out),(by exact HB.out)⟩)
      ·skip
       refine Kd.R_lit_step k26 _ 26 ?hg (N:=11) ?hd (xs:=([(⟨a1_0,a1_1,a1_2,a1_3⟩ : S26)] : List (S26))) (inner := [.int .i64 a1_0, .string a1_1, .bool a1_2, .int .i64 a1_3]) (ok:=fun _ => True) (okp:=fun _ => True) ?hr ?hp (fun _ hk => hk) trivial (Below.refl _ _) (Nat.le_refl _) (by simp) ?_;(case hd => rfl);(case hg => rfl);(case hr => (go_simp;done));(case hp => exact (Reps.c4 (show Kd.M k26 _ _ _ (⟨a1_0,a1_1,a1_2,a1_3⟩ : S26) [.int .i64 a1_0, .string a1_1, .bool a1_2, .int .i64 a1_3] from (k26_mkM _ _ _ (⟨a1_0,a1_1,a1_2,a1_3⟩ : S26) )) (Reps.none _ _)))
       intro v327 w41 ho42 hb hg_ hnew_
       clear hg_ hnew_
       (rw [← Ny326.out] at ho42)
       have n0_:=Aside0.mk (Kd.R_elder' (by exact HO322.out) (Kd.R_base ho42) hb)
       have n1_:=Aside0.mk (Kd.R_lower (Kd.R_newB (Kd.R_new' ho42 (Kd.R_lt (by exact HO322.out))) (g:=gb319) (o := .cells #[.int .i64 a1_0, .string a1_1, .bool a1_2, .int .i64 a1_3] 26 (0,0)) (by exact BK319.out)) (below_size (by exact HB.out)))
       have n2_:=Aside0.mk (blk_below (g:=gb319) (o := .cells #[.int .i64 a1_0, .string a1_1, .bool a1_2, .int .i64 a1_3] 26 (0,0)) (by exact BK319.out) hb)
       have n3_:=Aside0.mk (below_step (by exact HB.out) hb)
       clear HO322
       clear BK319
       clear HB
       have HO322:=n0_
       have HO328:=n1_
       have BK319:=n2_
       have HB:=n3_
       clear n0_ n1_ n2_ n3_
       clear hb ho42
       refine hK.out _ _ ⟨(blk_cell BK319.out 0).trans rfl,(blk_cell BK319.out 1).trans rfl,(blk_cell BK319.out 2).trans rfl,(blk_cell BK319.out 3).trans rfl⟩ (fun hHeld => ?_)
       clear hK K
       refine norm_ (a':=?_) ?_ ?_
       rotate_left
       ·show Act.put _ (some 11) _ = _
        simp only [Act.put,sA_,s0_,s1_,i64_w,i32_w]
        rfl
       refine one_ (i:=2) (N:=some 9) #[true,true,true,true,true,false,false] rfl rfl (by kernel_rfl) (by decide) (fun K hK => ?_)
       refine Kd.R_append_rows_step k26 (w0:=w) w.heap.size (by rfl) (.tmp 7) (.tmp 8) 24 26 (.agg #[(.int .i64 0),(.string ⟨#[]⟩),(.bool false),(.int .i64 0)]) 40 rfl Try.underlying24 info26 rfl (by decide) (by omega) v321 y320 l0 _ _ _ (fun k_ => some k_ ≠ (v327 : Value).ownBlock ∧ k_ ≠ gb319) (fun _ => False) rfl rfl ?aO ?aR (fun _ _ h => h) (fun _ h => h.elim) ?aF ?aB ?aS ?aL ?_
       (case aR => repeat (exact (Kd.C_below HR0.out HB.out)))
       (case aB => exact (by exact HB.out))
       (case aF => exact (fun k_ hk => ⟨Kd.fresh' (Kd.R_lt (by exact HO328.out)) k_ hk,Kd.freshB (g:=gb319) (o := .cells #[.int .i64 a1_0, .string a1_1, .bool a1_2, .int .i64 a1_3] 26 (0,0)) (by exact BK319.out) k_ hk⟩))
       (case aO => exact (by exact Kd.R_mono HO322.out (fun _ hk => ⟨hk.2,hk.1.2⟩)))
       (case aS => exact (below_size (by exact HB.out)))
       (case aL => have:=LMc3.out;omega)
       intro v324 w43 ho hb hg hat
       rw [← Ny323.out] at ho
       have n0_:=Aside0.mk (blk_grown (g:=gb319) (o := .cells #[.int .i64 a1_0, .string a1_1, .bool a1_2, .int .i64 a1_3] 26 (0,0)) (by exact BK319.out) hg (Kd.R_away HO322.out (fun _ hk => hk.1.2)))
       have n1_:=Aside0.mk (Kd.R_after (ok:=(fun k_ => k_ ≠ gb319)) (by exact Kd.R_mono HO328.out (fun _ hk => ⟨hk.2,hk.1.2⟩)) hg hat)
       have n2_:=Aside0.mk (hb)
       have n3_:=Aside0.mk (ho)
       clear BK319
       clear HO328
       clear HB
       clear HO322
       have BK319:=n0_
       have HO328:=n1_
       have HB:=n2_
       have HO325:=n3_
       clear n0_ n1_ n2_ n3_
       clear ho hb hg hat
       refine hK.out _ _ ⟨(blk_cell BK319.out 0).trans rfl,(blk_cell BK319.out 1).trans rfl,(blk_cell BK319.out 2).trans rfl,(blk_cell BK319.out 3).trans rfl⟩ (fun hHeld => ?_)
       clear hK K
       refine norm_ (a':=?_) ?_ ?_
       rotate_left
       ·show Act.put _ (some 9) _ = _
        simp only [Act.put,sA_,s0_,s1_,i64_w,i32_w]
        rfl
       exact norm_ (by simp only [putAll,Act.put,sA_,s0_,s1_]) (hCont (v321,v324,v327) _ ⟨hHeld,(by exact HO325.out),(by exact Kd.R_mono HO328.out (fun _ hk => ⟨hk.2,hk.1⟩)),(by exact BK319.out),(by exact HB.out)⟩)
     ·skip
      refine Kd.R_lit_step k26 _ 26 ?hg (N:=11) ?hd (xs:=([(⟨a1_0,a1_1,a1_2,a1_3⟩ : S26)] : List (S26))) (inner := [.int .i64 a1_0, .string a1_1, .bool a1_2, .int .i64 a1_3]) (ok:=fun _ => True) (okp:=fun _ => True) ?hr ?hp (fun _ hk => hk) trivial (Below.refl _ _) (Nat.le_refl _) (by simp) ?_;(case hd => rfl);(case hg => rfl);(case hr => (go_simp;done));(case hp => exact (Reps.c4 (show Kd.M k26 _ _ _ (⟨a1_0,a1_1,a1_2,a1_3⟩ : S26) [.int .i64 a1_0, .string a1_1, .bool a1_2, .int .i64 a1_3] from (k26_mkM _ _ _ (⟨a1_0,a1_1,a1_2,a1_3⟩ : S26) )) (Reps.none _ _)))
      intro v327 w39 ho40 hb hg_ hnew_
      clear hg_ hnew_
      (rw [← Ny326.out] at ho40)
      have n0_:=Aside0.mk (Kd.R_lower (Kd.R_newB ho40 (g:=gb319) (o := .cells #[.int .i64 a1_0, .string a1_1, .bool a1_2, .int .i64 a1_3] 26 (0,0)) (by exact BK319.out)) (below_size (by exact HB.out)))
      have n1_:=Aside0.mk (blk_below (g:=gb319) (o := .cells #[.int .i64 a1_0, .string a1_1, .bool a1_2, .int .i64 a1_3] 26 (0,0)) (by exact BK319.out) hb)
      have n2_:=Aside0.mk (below_step (by exact HB.out) hb)
      clear BK319
      clear HB
      have HO328:=n0_
      have BK319:=n1_
      have HB:=n2_
      clear n0_ n1_ n2_
      clear hb ho40
      refine hK.out _ _ ⟨(blk_cell BK319.out 0).trans rfl,(blk_cell BK319.out 1).trans rfl,(blk_cell BK319.out 2).trans rfl,(blk_cell BK319.out 3).trans rfl⟩ (fun hHeld => ?_)
      clear hK K
      refine norm_ (a':=?_) ?_ ?_
      rotate_left
      ·show Act.put _ (some 11) _ = _
       simp only [Act.put,sA_,s0_,s1_,i64_w,i32_w]
       rfl
      refine one_ (i:=0) (N:=some 7) #[true,true,false,true,true,false,false] rfl rfl (by kernel_rfl) (by decide) (fun K hK => ?_)
      refine Kd.R_lit_step k26 _ 26 ?hg (N:=7) ?hd (xs:=([] : List (S26))) (inner := []) (ok:=fun _ => True) (okp:=fun _ => True) ?hr ?hp (fun _ hk => hk) trivial (Below.refl _ _) (Nat.le_refl _) (by simp) ?_;(case hd => rfl);(case hg => rfl);(case hr => (go_simp;done));(case hp => exact (Reps.none _ _))
      intro v321 w41 ho42 hb hg_ hnew_
      clear hg_ hnew_
      (rw [← Ny320.out] at ho42)
      have n0_:=Aside0.mk (Kd.R_elder' (by exact HO328.out) (Kd.R_base ho42) hb)
      have n1_:=Aside0.mk (Kd.R_lower (Kd.R_newB (Kd.R_new' ho42 (Kd.R_lt (by exact HO328.out))) (g:=gb319) (o := .cells #[.int .i64 a1_0, .string a1_1, .bool a1_2, .int .i64 a1_3] 26 (0,0)) (by exact BK319.out)) (below_size (by exact HB.out)))
      have n2_:=Aside0.mk (blk_below (g:=gb319) (o := .cells #[.int .i64 a1_0, .string a1_1, .bool a1_2, .int .i64 a1_3] 26 (0,0)) (by exact BK319.out) hb)
      have n3_:=Aside0.mk (below_step (by exact HB.out) hb)
      clear HO328
      clear BK319
      clear HB
      have HO328:=n0_
      have HO322:=n1_
      have BK319:=n2_
      have HB:=n3_
      clear n0_ n1_ n2_ n3_
      clear hb ho42
      refine hK.out _ _ ⟨(blk_cell BK319.out 0).trans rfl,(blk_cell BK319.out 1).trans rfl,(blk_cell BK319.out 2).trans rfl,(blk_cell BK319.out 3).trans rfl⟩ (fun hHeld => ?_)
      clear hK K
      refine norm_ (a':=?_) ?_ ?_
      rotate_left
      ·show Act.put _ (some 7) _ = _
       simp only [Act.put,sA_,s0_,s1_,i64_w,i32_w]
       rfl
      refine one_ (i:=2) (N:=some 9) #[true,true,true,true,true,false,false] rfl rfl (by kernel_rfl) (by decide) (fun K hK => ?_)
      refine Kd.R_append_rows_step k26 (w0:=w) w.heap.size (by rfl) (.tmp 7) (.tmp 8) 24 26 (.agg #[(.int .i64 0),(.string ⟨#[]⟩),(.bool false),(.int .i64 0)]) 40 rfl Try.underlying24 info26 rfl (by decide) (by omega) v321 y320 l0 _ _ _ (fun k_ => some k_ ≠ (v327 : Value).ownBlock ∧ k_ ≠ gb319) (fun _ => False) rfl rfl ?aO ?aR (fun _ _ h => h) (fun _ h => h.elim) ?aF ?aB ?aS ?aL ?_
      (case aR => repeat (exact (Kd.C_below HR0.out HB.out)))
      (case aB => exact (by exact HB.out))
      (case aF => exact (fun k_ hk => ⟨Kd.fresh' (Kd.R_lt (by exact HO328.out)) k_ hk,Kd.freshB (g:=gb319) (o := .cells #[.int .i64 a1_0, .string a1_1, .bool a1_2, .int .i64 a1_3] 26 (0,0)) (by exact BK319.out) k_ hk⟩))
      (case aO => exact (by exact Kd.R_mono HO322.out (fun _ hk => ⟨hk.1.2,hk.2⟩)))
      (case aS => exact (below_size (by exact HB.out)))
      (case aL => have:=LMc3.out;omega)
      intro v324 w43 ho hb hg hat
      rw [← Ny323.out] at ho
      have n0_:=Aside0.mk (blk_grown (g:=gb319) (o := .cells #[.int .i64 a1_0, .string a1_1, .bool a1_2, .int .i64 a1_3] 26 (0,0)) (by exact BK319.out) hg (Kd.R_away HO322.out (fun _ hk => hk.2)))
      have n1_:=Aside0.mk (Kd.R_after (ok:=(fun k_ => k_ ≠ gb319)) (by exact Kd.R_mono HO328.out (fun _ hk => ⟨hk.1.2,hk.2⟩)) hg hat)
      have n2_:=Aside0.mk (hb)
      have n3_:=Aside0.mk (ho)
      clear BK319
      clear HO328
      clear HB
      clear HO322
      have BK319:=n0_
      have HO328:=n1_
      have HB:=n2_
      have HO325:=n3_
      clear n0_ n1_ n2_ n3_
      clear ho hb hg hat
      refine hK.out _ _ ⟨(blk_cell BK319.out 0).trans rfl,(blk_cell BK319.out 1).trans rfl,(blk_cell BK319.out 2).trans rfl,(blk_cell BK319.out 3).trans rfl⟩ (fun hHeld => ?_)
      clear hK K
      refine norm_ (a':=?_) ?_ ?_
      rotate_left
      ·show Act.put _ (some 9) _ = _
       simp only [Act.put,sA_,s0_,s1_,i64_w,i32_w]
       rfl
      exact norm_ (by simp only [putAll,Act.put,sA_,s0_,s1_]) (hCont (v321,v324,v327) _ ⟨hHeld,(by exact HO325.out),(by exact Kd.R_mono HO328.out (fun _ hk => ⟨hk.2,hk.1⟩)),(by exact BK319.out),(by exact HB.out)⟩)
    rintro ⟨v321,v324,v327⟩ w44 ⟨hS_,h0_,h1_,h2_,h3_⟩
    have n0_ : Aside0 (Kd.R k26 26 w44 w.heap.size (fun k_ => some k_ ≠ (v327 : Value).ownBlock ∧ k_ ≠ gb319) v324 y323):=⟨h0_⟩
    have n1_ : Aside0 (Kd.R k26 26 w44 w.heap.size (fun k_ => some k_ ≠ (v324 : Value).ownBlock ∧ k_ ≠ gb319) v327 y326):=⟨h1_⟩
    have n2_ : Aside0 (w44.heap[gb319]? = some (.cells #[.int .i64 a1_0, .string a1_1, .bool a1_2, .int .i64 a1_3] 26 (0,0))):=⟨h2_⟩
    have n3_ : Aside0 (Below w.heap.size w w44):=⟨h3_⟩
    clear BK319
    clear HB
    clear h0_ h1_ h2_ h3_
    have HO325:=n0_
    have HO328:=n1_
    have BK319:=n2_
    have HB:=n3_
    clear n0_ n1_ n2_ n3_
    have hHeld : w44.cell? ⟨gb319,0,none⟩ = some (.int .i64 a1_0) ∧ w44.cell? ⟨gb319,1,none⟩ = some (.string a1_1) ∧ w44.cell? ⟨gb319,2,none⟩ = some (.bool a1_2) ∧ w44.cell? ⟨gb319,3,none⟩ = some (.int .i64 a1_3):=hS_
    obtain ⟨Ao46,co46,eo46⟩ := Kd.R_slice HO328.out
    (subst eo46)
    refine norm_ (a':=?_) ?_ ?_
    rotate_left
    ·simp only [putAll,Act.put,sA_,s0_,s1_]
     rfl
    refine one_ (i:=5) (N:=some 12) #[true,true,true,true,true,true,false] rfl rfl (by kernel_rfl) (by decide) (fun K hK => ?_)
    refine Kd.R_append_rows_step k26 (w0:=w) w.heap.size (by rfl) (.tmp 9) (.tmp 11) 24 26 (.agg #[(.int .i64 0),(.string ⟨#[]⟩),(.bool false),(.int .i64 0)]) 40 rfl Try.underlying24 info26 rfl (by decide) (by omega) v324 y323 y326 _ _ _ (fun k_ => some k_ ≠ (.slice Ao46 y326.length co46 : Value).ownBlock ∧ k_ ≠ gb319) (fun _ => False) rfl rfl ?aO ?aR (fun _ _ h => h) (fun _ h => h.elim) ?aF ?aB ?aS ?aL ?_
    (case aR => repeat (exact (Kd.R_reads' HO328.out).2.2))
    (case aB => exact (by exact HB.out))
    (case aF => exact (fun k_ hk => ⟨Kd.fresh' (Kd.R_lt (by exact HO328.out)) k_ hk,Kd.freshB (g:=gb319) (o := .cells #[.int .i64 a1_0, .string a1_1, .bool a1_2, .int .i64 a1_3] 26 (0,0)) (by exact BK319.out) k_ hk⟩))
    (case aO => exact (by exact HO325.out))
    (case aS => exact (below_size (by exact HB.out)))
    (case aL => have:=LMc4.out;omega)
    intro v330 w45 ho hb hg hat
    rw [← Ny329.out] at ho
    have n0_:=Aside0.mk (blk_grown (g:=gb319) (o := .cells #[.int .i64 a1_0, .string a1_1, .bool a1_2, .int .i64 a1_3] 26 (0,0)) (by exact BK319.out) hg (Kd.R_away HO325.out (fun _ hk => hk.2)))
    have n1_:=Aside0.mk (Kd.R_after (ok:=(fun k_ => k_ ≠ gb319)) (by exact Kd.R_mono HO328.out (fun _ hk => ⟨hk.2,hk.1⟩)) hg hat)
    have n2_:=Aside0.mk (hb)
    have n3_:=Aside0.mk (ho)
    clear BK319
    clear HO328
    clear HB
    clear HO325
    have BK319:=n0_
    have HO328:=n1_
    have HB:=n2_
    have HO331:=n3_
    clear n0_ n1_ n2_ n3_
    clear ho hb hg hat
    refine hK.out _ _ ⟨(blk_cell BK319.out 0).trans rfl,(blk_cell BK319.out 1).trans rfl,(blk_cell BK319.out 2).trans rfl,(blk_cell BK319.out 3).trans rfl⟩ (fun hHeld => ?_)
    clear hK K
    refine norm_ (a':=?_) ?_ ?_
    rotate_left
    ·show Act.put _ (some 12) _ = _
     simp only [Act.put,sA_,s0_,s1_,i64_w,i32_w]
     rfl
    refine pure_ (i:=6) (N:=some 6) (v:=?_) (a':=?_) #[true,true,true,true,true,true,true] rfl rfl (by kernel_rfl) (fun _ _ _ h => h) (Or.inl ⟨by rfl, ?_⟩) ?_ ?_
    rotate_left
    ·intro w'
     go_simp
     with_reducible rfl
    rotate_left
    ·simp only [Act.put,sA_,s0_,s1_,i64_w,i32_w]
     rfl
    refine done_ (by kernel_rfl) ?_
    try go_wp2_with (first | ((with_reducible refine gate_callee (f:=25) rfl ?_);refine goesL_ (some 14) rfl rfl Try.func25 (by kernel_rfl) rfl #[.slice A0 l0.length c0] rfl (by (try simp only [List.map_toArray,List.map_cons,List.map_nil]);rfl) ?_;(with_reducible refine (spec_l20Good.calls k _ _ l0 false _ ?side1 ?side2 A5.out).mono ?_);(case side1 => repeat (exact (Kd.C_below HR0.out HB.out)));(case side2 => exact HC0.out);rintro e w47 ⟨rfl,hb⟩;refine ⟨_,rfl, ?_⟩;have n0_:=Aside0.mk (Kd.R_below (by exact HO328.out) hb);have n1_:=Aside0.mk (Kd.R_below (by exact HO331.out) hb);have n2_:=Aside0.mk (blk_below (g:=gb319) (o := .cells #[.int .i64 a1_0, .string a1_1, .bool a1_2, .int .i64 a1_3] 26 (0,0)) (by exact BK319.out) hb);have n3_:=Aside0.mk (below_step (by exact HB.out) hb);clear HO328;clear HO331;clear BK319;clear HB;have HO328:=n0_;have HO331:=n1_;have BK319:=n2_;have HB:=n3_;clear n0_ n1_ n2_ n3_;(try clear hb)) | ((with_reducible refine gate_dst (N:=21) rfl ?_);refine Kd.R_lit k26 _ 26 ?hg (N:=21) ?hd (xs:=([] : List (S26))) (inner := []) (ok:=fun _ => True) (okp:=fun _ => True) ?hr ?hp (fun _ hk => hk) trivial (Below.refl _ _) (Nat.le_refl _) (by simp) ?_;(case hd => rfl);(case hg => rfl);(case hr => (go_simp;done));(case hp => exact (Reps.none _ _));intro v338 w48 ho49 hb hg_ hnew_;clear hg_ hnew_;(rw [← Ny337.out] at ho49);have n0_:=Aside0.mk (Kd.R_elder' (by exact HO328.out) (Kd.R_base ho49) hb);have n1_:=Aside0.mk (Kd.R_elder' (by exact HO331.out) (Kd.R_base ho49) hb);have n2_:=Aside0.mk (Kd.R_lower (Kd.R_newB (Kd.R_new' (Kd.R_new' ho49 (Kd.R_lt (by exact HO328.out))) (Kd.R_lt (by exact HO331.out))) (g:=gb319) (o := .cells #[.int .i64 a1_0, .string a1_1, .bool a1_2, .int .i64 a1_3] 26 (0,0)) (by exact BK319.out)) (below_size (by exact HB.out)));have n3_:=Aside0.mk (blk_below (g:=gb319) (o := .cells #[.int .i64 a1_0, .string a1_1, .bool a1_2, .int .i64 a1_3] 26 (0,0)) (by exact BK319.out) hb);have n4_:=Aside0.mk (below_step (by exact HB.out) hb);clear HO328;clear HO331;clear BK319;clear HB;have HO328:=n0_;have HO331:=n1_;have HO339:=n2_;have BK319:=n3_;have HB:=n4_;clear n0_ n1_ n2_ n3_ n4_;clear hb ho49))
    go_ret2
    exact ⟨_,by rfl,by exact Kd.R_mono HO339.out (fun _ hk => trivial),by exact HB.out⟩
  ·rw [if_neg c4] at H
   exact absurd H (by simp)
 ·rw [if_neg c3] at H
  exact absurd H (by simp)

end Go.Proofs.Ytcjhmkhhhkcgkaa.PFnFiles
