-- Written by a program of this session, over the kit's print (wip/xprint.py)
import Derived.Test.YtglidkabkkifnaaPFnExactAddEntryx0
import Derived.Test.YtglidkabkkifnaaPFnExactAddEntryx3
namespace Go.Proofs.Ytglidkabkkifnaa.PFnExactAddEntry
open Go.RowKit Go.Proofs.YtglidkabkkifnaaW.PrintWords Go.Proofs.YtglidkabkkifnaaW.PrintLast Go.Proofs.YtglidkabkkifnaaW.PrintMore
attribute [local go_sem] max2_int min2_int max_two min_two max_three min_three max_four min_four   -- for this text's walks alone
set_option linter.unusedVariables false
set_option linter.unusedSimpArgs false

/-! ### spec_AddEntry: function 39 -/
def spec_AddEntry.f (k : Nat) (l0 : List (S55)) (a1_0 : Int) (a1_1 : ByteArray) (a1_2 : Bool) (a1_3 : Int) : Option ((List (S55)) × Bool):=(some (([] : List (S55)) : List (S55))).bind fun y133 => (if y133.length + l0.length < 3518437208883 then ((some (y133 ++ l0 : List (S55))).bind fun y136 => ((some (([(⟨a1_0,a1_1,a1_2,a1_3⟩ : S55)] : List (S55)) : List (S55))).bind fun y139 => (if y136.length + y139.length < 3518437208883 then ((some (y136 ++ y139 : List (S55))).bind fun y142 => ((spec_l20Good.f k l0).bind fun t145 => (if t145 = true then ((spec_l20Good.f k y142).bind fun t146 => (if t146 = true then (some (y142,true)) else (some ((([] : List (S55))),false)))) else (some ((([] : List (S55))),false))))) else (none)))) else (none))
theorem spec_AddEntry.mono : ∀ a0 a1 a2 a3 a4 k,LeO (spec_AddEntry.f k a0 a1 a2 a3 a4) (spec_AddEntry.f (k + 1) a0 a1 a2 a3 a4):=by
 intro a0 a1 a2 a3 a4 k
 unfold spec_AddEntry.f
 repeat' first
   | (with_reducible exact spec_l20Good.mono _ _)
   | (with_reducible exact LeO.refl _)
   | (with_reducible exact LeO.none _)
   | (with_reducible refine LeO.ite ?_ ?_)
   | (with_reducible refine LeO.bind ?_ (fun _ => ?_))
   | exact spec_l20Good.mono _ _
   | exact LeO.none _
   | refine LeO.ite ?_ ?_
   | refine LeO.bind ?_ (fun _ => ?_)
set_option maxHeartbeats 8000000 in
set_option maxRecDepth 100000 in
theorem spec_AddEntry.calls (k : Nat) (A0 : Option Addr) (c0 : Nat) (l0 : List (S55)) (a1_0 : Int) (a1_1 : ByteArray) (a1_2 : Bool) (a1_3 : Int) (r1 : List (S55)) (r2 : Bool) (w : World) (hr0 : Kd.C k55 w A0 l0.length l0) (hc0 : l0.length ≤ c0) (h : spec_AddEntry.f k l0 a1_0 a1_1 a1_2 a1_3 = some (r1,r2)) :
  Calls Try.prog 39 #[.slice A0 l0.length c0, .agg #[.int .i64 a1_0, .string a1_1, .bool a1_2, .int .i64 a1_3]] w fun e w' => ∃ v0_ : Value,e = .returned (.tuple #[v0_, .bool r2]) ∧ Kd.R k55 55 w' w.heap.size (fun _ => True) v0_ r1 ∧ Below w.heap.size w w':=by
 have hu55:=Try.underlying55
 have HR0:=Aside0.mk hr0
 have HC0:=Aside0.mk hc0
 clear hr0 hc0
 have HB:=Aside0.mk (Below.refl w.heap.size w)
 have H : ((some (([] : List (S55)) : List (S55))).bind fun y133 => (if y133.length + l0.length < 3518437208883 then ((some (y133 ++ l0 : List (S55))).bind fun y136 => ((some (([(⟨a1_0,a1_1,a1_2,a1_3⟩ : S55)] : List (S55)) : List (S55))).bind fun y139 => (if y136.length + y139.length < 3518437208883 then ((some (y136 ++ y139 : List (S55))).bind fun y142 => ((spec_l20Good.f k l0).bind fun t145 => (if t145 = true then ((spec_l20Good.f k y142).bind fun t146 => (if t146 = true then (some (y142,true)) else (some ((([] : List (S55))),false)))) else (some ((([] : List (S55))),false))))) else (none)))) else (none))) = some (r1,r2):=h
 clear h
 obtain ⟨y133,hy133⟩ : ∃ y_ : List (S55),y_ = (([] : List (S55))):=⟨_,rfl⟩
 replace H : (if y133.length + l0.length < 3518437208883 then ((some (y133 ++ l0 : List (S55))).bind fun y136 => ((some (([(⟨a1_0,a1_1,a1_2,a1_3⟩ : S55)] : List (S55)) : List (S55))).bind fun y139 => (if y136.length + y139.length < 3518437208883 then ((some (y136 ++ y139 : List (S55))).bind fun y142 => ((spec_l20Good.f k l0).bind fun t145 => (if t145 = true then ((spec_l20Good.f k y142).bind fun t146 => (if t146 = true then (some (y142,true)) else (some ((([] : List (S55))),false)))) else (some ((([] : List (S55))),false))))) else (none)))) else (none)) = some (r1,r2):=by first | (rw [hy133];with_reducible exact H) | (have H2_:=(Option.bind_some _ _).symm.trans H;rw [hy133];with_reducible exact H2_) | (have H2_:=(Option.bind_some _ _).symm.trans H;with_reducible exact H2_) | with_reducible exact H | (rw [hy133];exact H) | exact H
 have Ny133:=Aside0.mk hy133
 clear hy133
 by_cases c3 : y133.length + l0.length < 3518437208883
 ·rw [if_pos c3] at H
  have LMc3:=Aside0.mk c3
  clear c3
  obtain ⟨y136,hy136⟩ : ∃ y_ : List (S55),y_ = (y133 ++ l0):=⟨_,rfl⟩
  replace H : ((some (([(⟨a1_0,a1_1,a1_2,a1_3⟩ : S55)] : List (S55)) : List (S55))).bind fun y139 => (if y136.length + y139.length < 3518437208883 then ((some (y136 ++ y139 : List (S55))).bind fun y142 => ((spec_l20Good.f k l0).bind fun t145 => (if t145 = true then ((spec_l20Good.f k y142).bind fun t146 => (if t146 = true then (some (y142,true)) else (some ((([] : List (S55))),false)))) else (some ((([] : List (S55))),false))))) else (none))) = some (r1,r2):=by first | (rw [hy136];with_reducible exact H) | (have H2_:=(Option.bind_some _ _).symm.trans H;rw [hy136];with_reducible exact H2_) | (have H2_:=(Option.bind_some _ _).symm.trans H;with_reducible exact H2_) | with_reducible exact H | (rw [hy136];exact H) | exact H
  have Ny136:=Aside0.mk hy136
  clear hy136
  obtain ⟨y139,hy139⟩ : ∃ y_ : List (S55),y_ = (([(⟨a1_0,a1_1,a1_2,a1_3⟩ : S55)] : List (S55))):=⟨_,rfl⟩
  replace H : (if y136.length + y139.length < 3518437208883 then ((some (y136 ++ y139 : List (S55))).bind fun y142 => ((spec_l20Good.f k l0).bind fun t145 => (if t145 = true then ((spec_l20Good.f k y142).bind fun t146 => (if t146 = true then (some (y142,true)) else (some ((([] : List (S55))),false)))) else (some ((([] : List (S55))),false))))) else (none)) = some (r1,r2):=by first | (rw [hy139];with_reducible exact H) | (have H2_:=(Option.bind_some _ _).symm.trans H;rw [hy139];with_reducible exact H2_) | (have H2_:=(Option.bind_some _ _).symm.trans H;with_reducible exact H2_) | with_reducible exact H | (rw [hy139];exact H) | exact H
  have Ny139:=Aside0.mk hy139
  clear hy139
  by_cases c4 : y136.length + y139.length < 3518437208883
  ·rw [if_pos c4] at H
   have LMc4:=Aside0.mk c4
   clear c4
   obtain ⟨y142,hy142⟩ : ∃ y_ : List (S55),y_ = (y136 ++ y139):=⟨_,rfl⟩
   replace H : ((spec_l20Good.f k l0).bind fun t145 => (if t145 = true then ((spec_l20Good.f k y142).bind fun t146 => (if t146 = true then (some (y142,true)) else (some ((([] : List (S55))),false)))) else (some ((([] : List (S55))),false)))) = some (r1,r2):=by first | (rw [hy142];with_reducible exact H) | (have H2_:=(Option.bind_some _ _).symm.trans H;rw [hy142];with_reducible exact H2_) | (have H2_:=(Option.bind_some _ _).symm.trans H;with_reducible exact H2_) | with_reducible exact H | (rw [hy142];exact H) | exact H
   have Ny142:=Aside0.mk hy142
   clear hy142
   replace H:=Option.bind_eq_some_iff.mp H
   obtain ⟨t145,A50,H⟩ := H
   replace H : (if t145 = true then ((spec_l20Good.f k y142).bind fun t146 => (if t146 = true then (some (y142,true)) else (some ((([] : List (S55))),false)))) else (some ((([] : List (S55))),false))) = some (r1,r2):=H
   have A5:=Aside0.mk A50
   clear A50
   by_cases c6 : t145 = true
   ·subst c6
    have H1 : ((spec_l20Good.f k y142).bind fun t146 => (if t146 = true then (some (y142,true)) else (some ((([] : List (S55))),false)))) = some (r1,r2):=by rw [if_pos rfl] at H;exact H
    clear H
    have H:=H1
    clear H1
    replace H:=Option.bind_eq_some_iff.mp H
    obtain ⟨t146,A70,H⟩ := H
    replace H : (if t146 = true then (some (y142,true)) else (some ((([] : List (S55))),false))) = some (r1,r2):=H
    have A7:=Aside0.mk A70
    clear A70
    by_cases c8 : t146 = true
    ·subst c8
     have H1 : (some (y142,true)) = some (r1,r2):=by rw [if_pos rfl] at H;exact H
     clear H
     have H:=H1
     clear H1
     simp only [Option.some.injEq,Prod.mk.injEq] at H
     obtain ⟨rfl,rfl⟩ := H
     go_enter Try.func39,Try.ntmps39
     try go_wp2_with (first | ((with_reducible refine gate_dst (N:=3) rfl ?_);refine box_event ?hg (N:=3) ?hd (cs:=#[.int .i64 a1_0, .string a1_1, .bool a1_2, .int .i64 a1_3]) (t:=55) ?hr ?_;(case hd => rfl);(case hg => rfl);(case hr => first | (go_simp;done) | (go_simp;rfl));intro gb132 hg w9 hbox hb;have n0_:=Aside0.mk (below_step (by repeat (first | (with_reducible first | exact HB.out | apply below_alloc | apply pw_below_drewN | apply below_drew1) | exact HB.out)) hb);have n1_:=Aside0.mk (hbox);have n2_:=Aside0.mk ((by rw [hg];exact (below_size (by repeat (first | (with_reducible first | exact HB.out | apply below_alloc | apply pw_below_drewN | apply below_drew1) | exact HB.out))) : w.heap.size ≤ gb132));have n3_:=Aside0.mk ((by rw [hg];exact (below_size (by repeat (first | (with_reducible first | exact HB.out | apply below_alloc | apply pw_below_drewN | apply below_drew1) | exact HB.out))) : w.heap.size ≤ gb132));clear HB;have HB:=n0_;have BK132:=n1_;have GW132:=n2_;have GE132:=n3_;clear n0_ n1_ n2_ n3_;clear hb hbox hg))
     have n0_:=Aside0.mk (blk_drew BK132.out)
     have n1_:=Aside0.mk (below_drew1 HB.out)
     clear BK132
     clear HB
     have BK132:=n0_
     have HB:=n1_
     clear n0_ n1_
     refine start_ (n:=7) (S:=fun w' => w'.cell? ⟨gb132,0,none⟩ = some (.int .i64 a1_0) ∧ w'.cell? ⟨gb132,1,none⟩ = some (.string a1_1) ∧ w'.cell? ⟨gb132,2,none⟩ = some (.bool a1_2) ∧ w'.cell? ⟨gb132,3,none⟩ = some (.int .i64 a1_3)) (ds := []) #[false,false,false,false,false,false,false] (by kernel_rfl) rfl rfl ⟨(blk_cell BK132.out 0).trans rfl,(blk_cell BK132.out 1).trans rfl,(blk_cell BK132.out 2).trans rfl,(blk_cell BK132.out 3).trans rfl⟩ (fun hHeld => ?_)
     generalize w9.drew = w10 at BK132 HB hHeld ⊢
     refine pure_ (i:=1) (N:=some 8) (v:=?_) (a':=?_) #[false,true,false,false,false,false,false] rfl rfl (by kernel_rfl) (fun _ _ _ h => h) (Or.inl ⟨by rfl, ?_⟩) ?_ ?_
     rotate_left
     ·intro w'
      go_simp
      with_reducible rfl
     rotate_left
     ·simp only [Act.put,sA_,s0_,s1_,i64_w,i32_w]
      rfl
     refine take_ (i:=3) (N:=some 10) (v:=?_) (a':=?_) #[false,true,false,true,false,false,false] rfl rfl (by kernel_rfl) (fun _ _ _ h => h) (Or.inl ⟨by rfl, ?_⟩) hHeld ?_ ?_
     rotate_left
     ·rintro w' ⟨s0,s1,s2,s3⟩
      go_simp
      with_reducible rfl
     rotate_left
     ·simp only [Act.put,sA_,s0_,s1_,i64_w,i32_w]
      rfl
     refine join_ (σ:=Value × Value × Value) 2 #[true,true,true,true,true,false,false] (fun s_ => [(7,s_.1),(9,s_.2.1),(11,s_.2.2)]) (fun s_ w' => (w'.cell? ⟨gb132,0,none⟩ = some (.int .i64 a1_0) ∧ w'.cell? ⟨gb132,1,none⟩ = some (.string a1_1) ∧ w'.cell? ⟨gb132,2,none⟩ = some (.bool a1_2) ∧ w'.cell? ⟨gb132,3,none⟩ = some (.int .i64 a1_3)) ∧ (Kd.R k55 55 w' w.heap.size (fun k_ => some k_ ≠ (s_.2.2 : Value).ownBlock ∧ k_ ≠ gb132) s_.2.1 y136) ∧ (Kd.R k55 55 w' w.heap.size (fun k_ => some k_ ≠ (s_.2.1 : Value).ownBlock ∧ k_ ≠ gb132) s_.2.2 y139) ∧ (w'.heap[gb132]? = some (.cells #[.int .i64 a1_0, .string a1_1, .bool a1_2, .int .i64 a1_3] 55 (0,0))) ∧ (Below w.heap.size w w')) ?_ ?_
     rotate_left
     ·intro hCont
      refine two_ (i:=0) (j:=4) (Ni:=some 7) (Nj:=some 11) #[true,true,false,true,false,false,false] #[false,true,false,true,true,false,false] rfl rfl rfl rfl (by kernel_rfl) (by decide) (by decide) (fun K hK => ?_) (fun K hK => ?_)
      ·skip
       refine Kd.R_lit_step k55 _ 55 ?hg (N:=7) ?hd (xs:=([] : List (S55))) (inner := []) (ok:=fun _ => True) (okp:=fun _ => True) ?hr ?hp (fun _ hk => hk) trivial (Below.refl _ _) (Nat.le_refl _) (by simp) ?_;(case hd => rfl);(case hg => rfl);(case hr => first | (go_simp;done) | (go_simp;rfl));(case hp => exact (Reps.none _ _))
       intro v134 w11 ho12 hb hg_ hnew_
       clear hg_ hnew_
       (first | rw [← Ny133.out] at ho12 | (simp only [Int.reduceToNat] at ho12;rw [← Ny133.out] at ho12))
       have n0_:=Aside0.mk (Kd.R_lower (Kd.R_newB ho12 (g:=gb132) (o := .cells #[.int .i64 a1_0, .string a1_1, .bool a1_2, .int .i64 a1_3] 55 (0,0)) (by (with_reducible repeat (first | refine blk_drewN ?_ _ | refine blk_drew ?_ | refine blk_alloc ?_ _));exact BK132.out)) (below_size (by repeat (first | (with_reducible first | exact HB.out | apply below_alloc | apply pw_below_drewN | apply below_drew1 | refine below_set ?_ GE132.out) | exact HB.out))))
       have n1_:=Aside0.mk (blk_below (g:=gb132) (o := .cells #[.int .i64 a1_0, .string a1_1, .bool a1_2, .int .i64 a1_3] 55 (0,0)) (by (with_reducible repeat (first | refine blk_drewN ?_ _ | refine blk_drew ?_ | refine blk_alloc ?_ _));exact BK132.out) hb)
       have n2_:=Aside0.mk (below_step (by repeat (first | (with_reducible first | exact HB.out | apply below_alloc | apply pw_below_drewN | apply below_drew1 | refine below_set ?_ GE132.out) | exact HB.out)) hb)
       clear BK132
       clear HB
       have HO135:=n0_
       have BK132:=n1_
       have HB:=n2_
       clear n0_ n1_ n2_
       clear hb ho12
       refine hK.out _ _ ⟨(blk_cell BK132.out 0).trans rfl,(blk_cell BK132.out 1).trans rfl,(blk_cell BK132.out 2).trans rfl,(blk_cell BK132.out 3).trans rfl⟩ (fun hHeld => ?_)
       clear hK K
       refine norm_ (a':=?_) ?_ ?_
       rotate_left
       ·show Act.put _ (some 7) _ = _
        simp only [Act.put,sA_,s0_,s1_,i64_w,i32_w]
        rfl
       refine two_ (i:=2) (j:=4) (Ni:=some 9) (Nj:=some 11) #[true,true,true,true,false,false,false] #[true,true,false,true,true,false,false] rfl rfl rfl rfl (by kernel_rfl) (by decide) (by decide) (fun K hK => ?_) (fun K hK => ?_)
       ·skip
        refine Kd.R_append_rows_step k55 (w0:=w) w.heap.size (by rfl) (.tmp 7) (.tmp 8) 27 55 (.agg #[(.int .i64 0),(.string ⟨#[]⟩),(.bool false),(.int .i64 0)]) 40 rfl Try.underlying27 info55 rfl (by decide) (by omega) v134 y133 l0 _ _ _ (fun k_ => k_ ≠ gb132) (fun _ => False) rfl rfl ?aO ?aR (fun _ _ h => h) (fun _ h => h.elim) ?aF ?aB ?aS ?aL ?_
        (case aR => repeat (first | exact (Kd.C_below HR0.out HB.out) | (with_reducible refine Kd.C_alloc ?_ _) | (with_reducible refine Kd.C_drewN ?_ _) | (with_reducible refine Kd.C_drew ?_)))
        (case aB => exact (by repeat (first | (with_reducible first | exact HB.out | apply below_alloc | apply pw_below_drewN | apply below_drew1 | refine below_set ?_ GE132.out) | exact HB.out)))
        (case aF => exact (fun k_ hk => Kd.freshB (g:=gb132) (o := .cells #[.int .i64 a1_0, .string a1_1, .bool a1_2, .int .i64 a1_3] 55 (0,0)) (by (with_reducible repeat (first | refine blk_drewN ?_ _ | refine blk_drew ?_ | refine blk_alloc ?_ _));exact BK132.out) k_ hk))
        (case aO => exact (by (with_reducible repeat (first | apply Kd.R_alloc | apply Kd.R_drewN | apply Kd.R_drew));exact Kd.R_mono HO135.out (fun _ hk => hk.2)))
        (case aS => exact (below_size (by repeat (first | (with_reducible first | exact HB.out | apply below_alloc | apply pw_below_drewN | apply below_drew1 | refine below_set ?_ GE132.out) | exact HB.out))))
        (case aL => have:=LMc3.out;omega)
        intro v137 w13 ho hb hg hat
        rw [← Ny136.out] at ho
        have n0_:=Aside0.mk (blk_grown (g:=gb132) (o := .cells #[.int .i64 a1_0, .string a1_1, .bool a1_2, .int .i64 a1_3] 55 (0,0)) (by (with_reducible repeat (first | refine blk_drewN ?_ _ | refine blk_drew ?_ | refine blk_alloc ?_ _));exact BK132.out) hg (Kd.R_away HO135.out (fun _ hk => hk.2)))
        have n1_:=Aside0.mk (hb)
        have n2_:=Aside0.mk (ho)
        clear BK132
        clear HB
        clear HO135
        have BK132:=n0_
        have HB:=n1_
        have HO138:=n2_
        clear n0_ n1_ n2_
        clear ho hb hg hat
        refine hK.out _ _ ⟨(blk_cell BK132.out 0).trans rfl,(blk_cell BK132.out 1).trans rfl,(blk_cell BK132.out 2).trans rfl,(blk_cell BK132.out 3).trans rfl⟩ (fun hHeld => ?_)
        clear hK K
        refine norm_ (a':=?_) ?_ ?_
        rotate_left
        ·show Act.put _ (some 9) _ = _
         simp only [Act.put,sA_,s0_,s1_,i64_w,i32_w]
         rfl
        refine one_ (i:=4) (N:=some 11) #[true,true,true,true,true,false,false] rfl rfl (by kernel_rfl) (by decide) (fun K hK => ?_)
        refine Kd.R_lit_step k55 _ 55 ?hg (N:=11) ?hd (xs:=([(⟨a1_0,a1_1,a1_2,a1_3⟩ : S55)] : List (S55))) (inner := [.int .i64 a1_0, .string a1_1, .bool a1_2, .int .i64 a1_3]) (ok:=fun _ => True) (okp:=fun _ => True) ?hr ?hp (fun _ hk => hk) trivial (Below.refl _ _) (Nat.le_refl _) (by simp) ?_;(case hd => rfl);(case hg => rfl);(case hr => first | (go_simp;done) | (go_simp;rfl));(case hp => exact (Reps.c4 (show Kd.M k55 _ _ _ (⟨a1_0,a1_1,a1_2,a1_3⟩ : S55) [.int .i64 a1_0, .string a1_1, .bool a1_2, .int .i64 a1_3] from (k55_mkM _ _ _ (⟨a1_0,a1_1,a1_2,a1_3⟩ : S55) )) (Reps.none _ _)))
        intro v140 w14 ho15 hb hg_ hnew_
        clear hg_ hnew_
        (first | rw [← Ny139.out] at ho15 | (simp only [Int.reduceToNat] at ho15;rw [← Ny139.out] at ho15))
        have n0_:=Aside0.mk (Kd.R_elder' (by (with_reducible repeat (first | apply Kd.R_alloc | apply Kd.R_drewN | apply Kd.R_drew));exact HO138.out) (Kd.R_base ho15) hb)
        have n1_:=Aside0.mk (Kd.R_lower (Kd.R_newB (Kd.R_new' ho15 (Kd.R_lt (by (with_reducible repeat (first | apply Kd.R_alloc | apply Kd.R_drewN | apply Kd.R_drew));exact HO138.out))) (g:=gb132) (o := .cells #[.int .i64 a1_0, .string a1_1, .bool a1_2, .int .i64 a1_3] 55 (0,0)) (by (with_reducible repeat (first | refine blk_drewN ?_ _ | refine blk_drew ?_ | refine blk_alloc ?_ _));exact BK132.out)) (below_size (by repeat (first | (with_reducible first | exact HB.out | apply below_alloc | apply pw_below_drewN | apply below_drew1 | refine below_set ?_ GE132.out) | exact HB.out))))
        have n2_:=Aside0.mk (blk_below (g:=gb132) (o := .cells #[.int .i64 a1_0, .string a1_1, .bool a1_2, .int .i64 a1_3] 55 (0,0)) (by (with_reducible repeat (first | refine blk_drewN ?_ _ | refine blk_drew ?_ | refine blk_alloc ?_ _));exact BK132.out) hb)
        have n3_:=Aside0.mk (below_step (by repeat (first | (with_reducible first | exact HB.out | apply below_alloc | apply pw_below_drewN | apply below_drew1 | refine below_set ?_ GE132.out) | exact HB.out)) hb)
        clear HO138
        clear BK132
        clear HB
        have HO138:=n0_
        have HO141:=n1_
        have BK132:=n2_
        have HB:=n3_
        clear n0_ n1_ n2_ n3_
        clear hb ho15
        refine hK.out _ _ ⟨(blk_cell BK132.out 0).trans rfl,(blk_cell BK132.out 1).trans rfl,(blk_cell BK132.out 2).trans rfl,(blk_cell BK132.out 3).trans rfl⟩ (fun hHeld => ?_)
        clear hK K
        refine norm_ (a':=?_) ?_ ?_
        rotate_left
        ·show Act.put _ (some 11) _ = _
         simp only [Act.put,sA_,s0_,s1_,i64_w,i32_w]
         rfl
        exact norm_ (by simp only [putAll,Act.put,sA_,s0_,s1_]) (hCont (v134,v137,v140) _ ⟨hHeld,(by (with_reducible repeat (first | apply Kd.R_alloc | apply Kd.R_drewN | apply Kd.R_drew));exact Kd.R_mono HO138.out (fun _ hk => ⟨hk.2,hk.1⟩)),(by (with_reducible repeat (first | apply Kd.R_alloc | apply Kd.R_drewN | apply Kd.R_drew));exact Kd.R_mono HO141.out (fun _ hk => ⟨hk.1.2,hk.2⟩)),(by (with_reducible repeat (first | refine blk_drewN ?_ _ | refine blk_drew ?_ | refine blk_alloc ?_ _));exact BK132.out),(by repeat (first | (with_reducible first | exact HB.out | apply below_alloc | apply pw_below_drewN | apply below_drew1 | refine below_set ?_ GE132.out) | exact HB.out))⟩)
       ·skip
        refine Kd.R_lit_step k55 _ 55 ?hg (N:=11) ?hd (xs:=([(⟨a1_0,a1_1,a1_2,a1_3⟩ : S55)] : List (S55))) (inner := [.int .i64 a1_0, .string a1_1, .bool a1_2, .int .i64 a1_3]) (ok:=fun _ => True) (okp:=fun _ => True) ?hr ?hp (fun _ hk => hk) trivial (Below.refl _ _) (Nat.le_refl _) (by simp) ?_;(case hd => rfl);(case hg => rfl);(case hr => first | (go_simp;done) | (go_simp;rfl));(case hp => exact (Reps.c4 (show Kd.M k55 _ _ _ (⟨a1_0,a1_1,a1_2,a1_3⟩ : S55) [.int .i64 a1_0, .string a1_1, .bool a1_2, .int .i64 a1_3] from (k55_mkM _ _ _ (⟨a1_0,a1_1,a1_2,a1_3⟩ : S55) )) (Reps.none _ _)))
        intro v140 w13 ho14 hb hg_ hnew_
        clear hg_ hnew_
        (first | rw [← Ny139.out] at ho14 | (simp only [Int.reduceToNat] at ho14;rw [← Ny139.out] at ho14))
        have n0_:=Aside0.mk (Kd.R_elder' (by (with_reducible repeat (first | apply Kd.R_alloc | apply Kd.R_drewN | apply Kd.R_drew));exact HO135.out) (Kd.R_base ho14) hb)
        have n1_:=Aside0.mk (Kd.R_lower (Kd.R_newB (Kd.R_new' ho14 (Kd.R_lt (by (with_reducible repeat (first | apply Kd.R_alloc | apply Kd.R_drewN | apply Kd.R_drew));exact HO135.out))) (g:=gb132) (o := .cells #[.int .i64 a1_0, .string a1_1, .bool a1_2, .int .i64 a1_3] 55 (0,0)) (by (with_reducible repeat (first | refine blk_drewN ?_ _ | refine blk_drew ?_ | refine blk_alloc ?_ _));exact BK132.out)) (below_size (by repeat (first | (with_reducible first | exact HB.out | apply below_alloc | apply pw_below_drewN | apply below_drew1 | refine below_set ?_ GE132.out) | exact HB.out))))
        have n2_:=Aside0.mk (blk_below (g:=gb132) (o := .cells #[.int .i64 a1_0, .string a1_1, .bool a1_2, .int .i64 a1_3] 55 (0,0)) (by (with_reducible repeat (first | refine blk_drewN ?_ _ | refine blk_drew ?_ | refine blk_alloc ?_ _));exact BK132.out) hb)
        have n3_:=Aside0.mk (below_step (by repeat (first | (with_reducible first | exact HB.out | apply below_alloc | apply pw_below_drewN | apply below_drew1 | refine below_set ?_ GE132.out) | exact HB.out)) hb)
        clear HO135
        clear BK132
        clear HB
        have HO135:=n0_
        have HO141:=n1_
        have BK132:=n2_
        have HB:=n3_
        clear n0_ n1_ n2_ n3_
        clear hb ho14
        refine hK.out _ _ ⟨(blk_cell BK132.out 0).trans rfl,(blk_cell BK132.out 1).trans rfl,(blk_cell BK132.out 2).trans rfl,(blk_cell BK132.out 3).trans rfl⟩ (fun hHeld => ?_)
        clear hK K
        refine norm_ (a':=?_) ?_ ?_
        rotate_left
        ·show Act.put _ (some 11) _ = _
         simp only [Act.put,sA_,s0_,s1_,i64_w,i32_w]
         rfl
        refine one_ (i:=2) (N:=some 9) #[true,true,true,true,true,false,false] rfl rfl (by kernel_rfl) (by decide) (fun K hK => ?_)
        refine Kd.R_append_rows_step k55 (w0:=w) w.heap.size (by rfl) (.tmp 7) (.tmp 8) 27 55 (.agg #[(.int .i64 0),(.string ⟨#[]⟩),(.bool false),(.int .i64 0)]) 40 rfl Try.underlying27 info55 rfl (by decide) (by omega) v134 y133 l0 _ _ _ (fun k_ => some k_ ≠ (v140 : Value).ownBlock ∧ k_ ≠ gb132) (fun _ => False) rfl rfl ?aO ?aR (fun _ _ h => h) (fun _ h => h.elim) ?aF ?aB ?aS ?aL ?_
        (case aR => repeat (first | exact (Kd.C_below HR0.out HB.out) | (with_reducible refine Kd.C_alloc ?_ _) | (with_reducible refine Kd.C_drewN ?_ _) | (with_reducible refine Kd.C_drew ?_)))
        (case aB => exact (by repeat (first | (with_reducible first | exact HB.out | apply below_alloc | apply pw_below_drewN | apply below_drew1 | refine below_set ?_ GE132.out) | exact HB.out)))
        (case aF => exact (fun k_ hk => ⟨Kd.fresh' (Kd.R_lt (by (with_reducible repeat (first | apply Kd.R_alloc | apply Kd.R_drewN | apply Kd.R_drew));exact HO141.out)) k_ hk,Kd.freshB (g:=gb132) (o := .cells #[.int .i64 a1_0, .string a1_1, .bool a1_2, .int .i64 a1_3] 55 (0,0)) (by (with_reducible repeat (first | refine blk_drewN ?_ _ | refine blk_drew ?_ | refine blk_alloc ?_ _));exact BK132.out) k_ hk⟩))
        (case aO => exact (by (with_reducible repeat (first | apply Kd.R_alloc | apply Kd.R_drewN | apply Kd.R_drew));exact Kd.R_mono HO135.out (fun _ hk => ⟨hk.2,hk.1.2⟩)))
        (case aS => exact (below_size (by repeat (first | (with_reducible first | exact HB.out | apply below_alloc | apply pw_below_drewN | apply below_drew1 | refine below_set ?_ GE132.out) | exact HB.out))))
        (case aL => have:=LMc3.out;omega)
        intro v137 w15 ho hb hg hat
        rw [← Ny136.out] at ho
        have n0_:=Aside0.mk (blk_grown (g:=gb132) (o := .cells #[.int .i64 a1_0, .string a1_1, .bool a1_2, .int .i64 a1_3] 55 (0,0)) (by (with_reducible repeat (first | refine blk_drewN ?_ _ | refine blk_drew ?_ | refine blk_alloc ?_ _));exact BK132.out) hg (Kd.R_away HO135.out (fun _ hk => hk.1.2)))
        have n1_:=Aside0.mk (Kd.R_after (ok:=(fun k_ => k_ ≠ gb132)) (by (with_reducible repeat (first | apply Kd.R_alloc | apply Kd.R_drewN | apply Kd.R_drew));exact Kd.R_mono HO141.out (fun _ hk => ⟨hk.2,hk.1.2⟩)) hg hat)
        have n2_:=Aside0.mk (hb)
        have n3_:=Aside0.mk (ho)
        clear BK132
        clear HO141
        clear HB
        clear HO135
        have BK132:=n0_
        have HO141:=n1_
        have HB:=n2_
        have HO138:=n3_
        clear n0_ n1_ n2_ n3_
        clear ho hb hg hat
        refine hK.out _ _ ⟨(blk_cell BK132.out 0).trans rfl,(blk_cell BK132.out 1).trans rfl,(blk_cell BK132.out 2).trans rfl,(blk_cell BK132.out 3).trans rfl⟩ (fun hHeld => ?_)
        clear hK K
        refine norm_ (a':=?_) ?_ ?_
        rotate_left
        ·show Act.put _ (some 9) _ = _
         simp only [Act.put,sA_,s0_,s1_,i64_w,i32_w]
         rfl
        exact norm_ (by simp only [putAll,Act.put,sA_,s0_,s1_]) (hCont (v134,v137,v140) _ ⟨hHeld,(by (with_reducible repeat (first | apply Kd.R_alloc | apply Kd.R_drewN | apply Kd.R_drew));exact HO138.out),(by (with_reducible repeat (first | apply Kd.R_alloc | apply Kd.R_drewN | apply Kd.R_drew));exact Kd.R_mono HO141.out (fun _ hk => ⟨hk.2,hk.1⟩)),(by (with_reducible repeat (first | refine blk_drewN ?_ _ | refine blk_drew ?_ | refine blk_alloc ?_ _));exact BK132.out),(by repeat (first | (with_reducible first | exact HB.out | apply below_alloc | apply pw_below_drewN | apply below_drew1 | refine below_set ?_ GE132.out) | exact HB.out))⟩)
      ·skip
       refine Kd.R_lit_step k55 _ 55 ?hg (N:=11) ?hd (xs:=([(⟨a1_0,a1_1,a1_2,a1_3⟩ : S55)] : List (S55))) (inner := [.int .i64 a1_0, .string a1_1, .bool a1_2, .int .i64 a1_3]) (ok:=fun _ => True) (okp:=fun _ => True) ?hr ?hp (fun _ hk => hk) trivial (Below.refl _ _) (Nat.le_refl _) (by simp) ?_;(case hd => rfl);(case hg => rfl);(case hr => first | (go_simp;done) | (go_simp;rfl));(case hp => exact (Reps.c4 (show Kd.M k55 _ _ _ (⟨a1_0,a1_1,a1_2,a1_3⟩ : S55) [.int .i64 a1_0, .string a1_1, .bool a1_2, .int .i64 a1_3] from (k55_mkM _ _ _ (⟨a1_0,a1_1,a1_2,a1_3⟩ : S55) )) (Reps.none _ _)))
       intro v140 w11 ho12 hb hg_ hnew_
       clear hg_ hnew_
       (first | rw [← Ny139.out] at ho12 | (simp only [Int.reduceToNat] at ho12;rw [← Ny139.out] at ho12))
       have n0_:=Aside0.mk (Kd.R_lower (Kd.R_newB ho12 (g:=gb132) (o := .cells #[.int .i64 a1_0, .string a1_1, .bool a1_2, .int .i64 a1_3] 55 (0,0)) (by (with_reducible repeat (first | refine blk_drewN ?_ _ | refine blk_drew ?_ | refine blk_alloc ?_ _));exact BK132.out)) (below_size (by repeat (first | (with_reducible first | exact HB.out | apply below_alloc | apply pw_below_drewN | apply below_drew1 | refine below_set ?_ GE132.out) | exact HB.out))))
       have n1_:=Aside0.mk (blk_below (g:=gb132) (o := .cells #[.int .i64 a1_0, .string a1_1, .bool a1_2, .int .i64 a1_3] 55 (0,0)) (by (with_reducible repeat (first | refine blk_drewN ?_ _ | refine blk_drew ?_ | refine blk_alloc ?_ _));exact BK132.out) hb)
       have n2_:=Aside0.mk (below_step (by repeat (first | (with_reducible first | exact HB.out | apply below_alloc | apply pw_below_drewN | apply below_drew1 | refine below_set ?_ GE132.out) | exact HB.out)) hb)
       clear BK132
       clear HB
       have HO141:=n0_
       have BK132:=n1_
       have HB:=n2_
       clear n0_ n1_ n2_
       clear hb ho12
       refine hK.out _ _ ⟨(blk_cell BK132.out 0).trans rfl,(blk_cell BK132.out 1).trans rfl,(blk_cell BK132.out 2).trans rfl,(blk_cell BK132.out 3).trans rfl⟩ (fun hHeld => ?_)
       clear hK K
       refine norm_ (a':=?_) ?_ ?_
       rotate_left
       ·show Act.put _ (some 11) _ = _
        simp only [Act.put,sA_,s0_,s1_,i64_w,i32_w]
        rfl
       refine one_ (i:=0) (N:=some 7) #[true,true,false,true,true,false,false] rfl rfl (by kernel_rfl) (by decide) (fun K hK => ?_)
       refine Kd.R_lit_step k55 _ 55 ?hg (N:=7) ?hd (xs:=([] : List (S55))) (inner := []) (ok:=fun _ => True) (okp:=fun _ => True) ?hr ?hp (fun _ hk => hk) trivial (Below.refl _ _) (Nat.le_refl _) (by simp) ?_;(case hd => rfl);(case hg => rfl);(case hr => first | (go_simp;done) | (go_simp;rfl));(case hp => exact (Reps.none _ _))
       intro v134 w13 ho14 hb hg_ hnew_
       clear hg_ hnew_
       (first | rw [← Ny133.out] at ho14 | (simp only [Int.reduceToNat] at ho14;rw [← Ny133.out] at ho14))
       have n0_:=Aside0.mk (Kd.R_elder' (by (with_reducible repeat (first | apply Kd.R_alloc | apply Kd.R_drewN | apply Kd.R_drew));exact HO141.out) (Kd.R_base ho14) hb)
       have n1_:=Aside0.mk (Kd.R_lower (Kd.R_newB (Kd.R_new' ho14 (Kd.R_lt (by (with_reducible repeat (first | apply Kd.R_alloc | apply Kd.R_drewN | apply Kd.R_drew));exact HO141.out))) (g:=gb132) (o := .cells #[.int .i64 a1_0, .string a1_1, .bool a1_2, .int .i64 a1_3] 55 (0,0)) (by (with_reducible repeat (first | refine blk_drewN ?_ _ | refine blk_drew ?_ | refine blk_alloc ?_ _));exact BK132.out)) (below_size (by repeat (first | (with_reducible first | exact HB.out | apply below_alloc | apply pw_below_drewN | apply below_drew1 | refine below_set ?_ GE132.out) | exact HB.out))))
       have n2_:=Aside0.mk (blk_below (g:=gb132) (o := .cells #[.int .i64 a1_0, .string a1_1, .bool a1_2, .int .i64 a1_3] 55 (0,0)) (by (with_reducible repeat (first | refine blk_drewN ?_ _ | refine blk_drew ?_ | refine blk_alloc ?_ _));exact BK132.out) hb)
       have n3_:=Aside0.mk (below_step (by repeat (first | (with_reducible first | exact HB.out | apply below_alloc | apply pw_below_drewN | apply below_drew1 | refine below_set ?_ GE132.out) | exact HB.out)) hb)
       clear HO141
       clear BK132
       clear HB
       have HO141:=n0_
       have HO135:=n1_
       have BK132:=n2_
       have HB:=n3_
       clear n0_ n1_ n2_ n3_
       clear hb ho14
       refine hK.out _ _ ⟨(blk_cell BK132.out 0).trans rfl,(blk_cell BK132.out 1).trans rfl,(blk_cell BK132.out 2).trans rfl,(blk_cell BK132.out 3).trans rfl⟩ (fun hHeld => ?_)
       clear hK K
       refine norm_ (a':=?_) ?_ ?_
       rotate_left
       ·show Act.put _ (some 7) _ = _
        simp only [Act.put,sA_,s0_,s1_,i64_w,i32_w]
        rfl
       refine one_ (i:=2) (N:=some 9) #[true,true,true,true,true,false,false] rfl rfl (by kernel_rfl) (by decide) (fun K hK => ?_)
       refine Kd.R_append_rows_step k55 (w0:=w) w.heap.size (by rfl) (.tmp 7) (.tmp 8) 27 55 (.agg #[(.int .i64 0),(.string ⟨#[]⟩),(.bool false),(.int .i64 0)]) 40 rfl Try.underlying27 info55 rfl (by decide) (by omega) v134 y133 l0 _ _ _ (fun k_ => some k_ ≠ (v140 : Value).ownBlock ∧ k_ ≠ gb132) (fun _ => False) rfl rfl ?aO ?aR (fun _ _ h => h) (fun _ h => h.elim) ?aF ?aB ?aS ?aL ?_
       (case aR => repeat (first | exact (Kd.C_below HR0.out HB.out) | (with_reducible refine Kd.C_alloc ?_ _) | (with_reducible refine Kd.C_drewN ?_ _) | (with_reducible refine Kd.C_drew ?_)))
       (case aB => exact (by repeat (first | (with_reducible first | exact HB.out | apply below_alloc | apply pw_below_drewN | apply below_drew1 | refine below_set ?_ GE132.out) | exact HB.out)))
       (case aF => exact (fun k_ hk => ⟨Kd.fresh' (Kd.R_lt (by (with_reducible repeat (first | apply Kd.R_alloc | apply Kd.R_drewN | apply Kd.R_drew));exact HO141.out)) k_ hk,Kd.freshB (g:=gb132) (o := .cells #[.int .i64 a1_0, .string a1_1, .bool a1_2, .int .i64 a1_3] 55 (0,0)) (by (with_reducible repeat (first | refine blk_drewN ?_ _ | refine blk_drew ?_ | refine blk_alloc ?_ _));exact BK132.out) k_ hk⟩))
       (case aO => exact (by (with_reducible repeat (first | apply Kd.R_alloc | apply Kd.R_drewN | apply Kd.R_drew));exact Kd.R_mono HO135.out (fun _ hk => ⟨hk.1.2,hk.2⟩)))
       (case aS => exact (below_size (by repeat (first | (with_reducible first | exact HB.out | apply below_alloc | apply pw_below_drewN | apply below_drew1 | refine below_set ?_ GE132.out) | exact HB.out))))
       (case aL => have:=LMc3.out;omega)
       intro v137 w15 ho hb hg hat
       rw [← Ny136.out] at ho
       have n0_:=Aside0.mk (blk_grown (g:=gb132) (o := .cells #[.int .i64 a1_0, .string a1_1, .bool a1_2, .int .i64 a1_3] 55 (0,0)) (by (with_reducible repeat (first | refine blk_drewN ?_ _ | refine blk_drew ?_ | refine blk_alloc ?_ _));exact BK132.out) hg (Kd.R_away HO135.out (fun _ hk => hk.2)))
       have n1_:=Aside0.mk (Kd.R_after (ok:=(fun k_ => k_ ≠ gb132)) (by (with_reducible repeat (first | apply Kd.R_alloc | apply Kd.R_drewN | apply Kd.R_drew));exact Kd.R_mono HO141.out (fun _ hk => ⟨hk.1.2,hk.2⟩)) hg hat)
       have n2_:=Aside0.mk (hb)
       have n3_:=Aside0.mk (ho)
       clear BK132
       clear HO141
       clear HB
       clear HO135
       have BK132:=n0_
       have HO141:=n1_
       have HB:=n2_
       have HO138:=n3_
       clear n0_ n1_ n2_ n3_
       clear ho hb hg hat
       refine hK.out _ _ ⟨(blk_cell BK132.out 0).trans rfl,(blk_cell BK132.out 1).trans rfl,(blk_cell BK132.out 2).trans rfl,(blk_cell BK132.out 3).trans rfl⟩ (fun hHeld => ?_)
       clear hK K
       refine norm_ (a':=?_) ?_ ?_
       rotate_left
       ·show Act.put _ (some 9) _ = _
        simp only [Act.put,sA_,s0_,s1_,i64_w,i32_w]
        rfl
       exact norm_ (by simp only [putAll,Act.put,sA_,s0_,s1_]) (hCont (v134,v137,v140) _ ⟨hHeld,(by (with_reducible repeat (first | apply Kd.R_alloc | apply Kd.R_drewN | apply Kd.R_drew));exact HO138.out),(by (with_reducible repeat (first | apply Kd.R_alloc | apply Kd.R_drewN | apply Kd.R_drew));exact Kd.R_mono HO141.out (fun _ hk => ⟨hk.2,hk.1⟩)),(by (with_reducible repeat (first | refine blk_drewN ?_ _ | refine blk_drew ?_ | refine blk_alloc ?_ _));exact BK132.out),(by repeat (first | (with_reducible first | exact HB.out | apply below_alloc | apply pw_below_drewN | apply below_drew1 | refine below_set ?_ GE132.out) | exact HB.out))⟩)
     rintro ⟨v134,v137,v140⟩ w16 ⟨hS_,h0_,h1_,h2_,h3_⟩
     have n0_ : Aside0 (Kd.R k55 55 w16 w.heap.size (fun k_ => some k_ ≠ (v140 : Value).ownBlock ∧ k_ ≠ gb132) v137 y136):=⟨h0_⟩
     have n1_ : Aside0 (Kd.R k55 55 w16 w.heap.size (fun k_ => some k_ ≠ (v137 : Value).ownBlock ∧ k_ ≠ gb132) v140 y139):=⟨h1_⟩
     have n2_ : Aside0 (w16.heap[gb132]? = some (.cells #[.int .i64 a1_0, .string a1_1, .bool a1_2, .int .i64 a1_3] 55 (0,0))):=⟨h2_⟩
     have n3_ : Aside0 (Below w.heap.size w w16):=⟨h3_⟩
     clear BK132
     clear HB
     clear h0_ h1_ h2_ h3_
     have HO138:=n0_
     have HO141:=n1_
     have BK132:=n2_
     have HB:=n3_
     clear n0_ n1_ n2_ n3_
     have hHeld : w16.cell? ⟨gb132,0,none⟩ = some (.int .i64 a1_0) ∧ w16.cell? ⟨gb132,1,none⟩ = some (.string a1_1) ∧ w16.cell? ⟨gb132,2,none⟩ = some (.bool a1_2) ∧ w16.cell? ⟨gb132,3,none⟩ = some (.int .i64 a1_3):=hS_
     obtain ⟨Ao18,co18,eo18⟩ := Kd.R_slice HO141.out
     (first | subst eo18 | (injection eo18 with f1_ f2_ f3_;have f4_:=f1_.symm;have f5_:=f3_.symm;clear f1_ f2_ f3_;subst f4_;subst f5_))
     refine norm_ (a':=?_) ?_ ?_
     rotate_left
     ·simp only [putAll,Act.put,sA_,s0_,s1_]
      rfl
     refine one_ (i:=5) (N:=some 12) #[true,true,true,true,true,true,false] rfl rfl (by kernel_rfl) (by decide) (fun K hK => ?_)
     refine Kd.R_append_rows_step k55 (w0:=w) w.heap.size (by rfl) (.tmp 9) (.tmp 11) 27 55 (.agg #[(.int .i64 0),(.string ⟨#[]⟩),(.bool false),(.int .i64 0)]) 40 rfl Try.underlying27 info55 rfl (by decide) (by omega) v137 y136 y139 _ _ _ (fun k_ => some k_ ≠ (.slice Ao18 y139.length co18 : Value).ownBlock ∧ k_ ≠ gb132) (fun _ => False) rfl rfl ?aO ?aR (fun _ _ h => h) (fun _ h => h.elim) ?aF ?aB ?aS ?aL ?_
     (case aR => repeat (first | exact (Kd.R_reads' HO141.out).2.2 | (with_reducible refine Kd.C_alloc ?_ _) | (with_reducible refine Kd.C_drewN ?_ _) | (with_reducible refine Kd.C_drew ?_)))
     (case aB => exact (by repeat (first | (with_reducible first | exact HB.out | apply below_alloc | apply pw_below_drewN | apply below_drew1 | refine below_set ?_ GE132.out) | exact HB.out)))
     (case aF => exact (fun k_ hk => ⟨Kd.fresh' (Kd.R_lt (by (with_reducible repeat (first | apply Kd.R_alloc | apply Kd.R_drewN | apply Kd.R_drew));exact HO141.out)) k_ hk,Kd.freshB (g:=gb132) (o := .cells #[.int .i64 a1_0, .string a1_1, .bool a1_2, .int .i64 a1_3] 55 (0,0)) (by (with_reducible repeat (first | refine blk_drewN ?_ _ | refine blk_drew ?_ | refine blk_alloc ?_ _));exact BK132.out) k_ hk⟩))
     (case aO => exact (by (with_reducible repeat (first | apply Kd.R_alloc | apply Kd.R_drewN | apply Kd.R_drew));exact HO138.out))
     (case aS => exact (below_size (by repeat (first | (with_reducible first | exact HB.out | apply below_alloc | apply pw_below_drewN | apply below_drew1 | refine below_set ?_ GE132.out) | exact HB.out))))
     (case aL => have:=LMc4.out;omega)
     intro v143 w17 ho hb hg hat
     rw [← Ny142.out] at ho
     have n0_:=Aside0.mk (blk_grown (g:=gb132) (o := .cells #[.int .i64 a1_0, .string a1_1, .bool a1_2, .int .i64 a1_3] 55 (0,0)) (by (with_reducible repeat (first | refine blk_drewN ?_ _ | refine blk_drew ?_ | refine blk_alloc ?_ _));exact BK132.out) hg (Kd.R_away HO138.out (fun _ hk => hk.2)))
     have n1_:=Aside0.mk (Kd.R_after (ok:=(fun k_ => k_ ≠ gb132)) (by (with_reducible repeat (first | apply Kd.R_alloc | apply Kd.R_drewN | apply Kd.R_drew));exact Kd.R_mono HO141.out (fun _ hk => ⟨hk.2,hk.1⟩)) hg hat)
     have n2_:=Aside0.mk (hb)
     have n3_:=Aside0.mk (ho)
     clear BK132
     clear HO141
     clear HB
     clear HO138
     have BK132:=n0_
     have HO141:=n1_
     have HB:=n2_
     have HO144:=n3_
     clear n0_ n1_ n2_ n3_
     clear ho hb hg hat
     refine hK.out _ _ ⟨(blk_cell BK132.out 0).trans rfl,(blk_cell BK132.out 1).trans rfl,(blk_cell BK132.out 2).trans rfl,(blk_cell BK132.out 3).trans rfl⟩ (fun hHeld => ?_)
     clear hK K
     refine norm_ (a':=?_) ?_ ?_
     rotate_left
     ·show Act.put _ (some 12) _ = _
      simp only [Act.put,sA_,s0_,s1_,i64_w,i32_w]
      rfl
     refine pure_ (i:=6) (N:=some 6) (v:=?_) (a':=?_) #[true,true,true,true,true,true,true] rfl rfl (by kernel_rfl) (fun _ _ _ h => h) (Or.inl ⟨by rfl, ?_⟩) ?_ ?_
     rotate_left
     ·intro w'
      go_simp
      with_reducible rfl
     rotate_left
     ·simp only [Act.put,sA_,s0_,s1_,i64_w,i32_w]
      rfl
     refine done_ (by kernel_rfl) ?_
     try go_wp2_with (first | ((with_reducible refine gate_callee (f:=59) rfl ?_);refine goesL_ (some 14) rfl rfl Try.func59 (by kernel_rfl) rfl #[.slice A0 l0.length c0] rfl (by (try simp only [List.map_toArray,List.map_cons,List.map_nil]);first | done | rfl | (simp only [List.length_drop,List.length_take];rfl)) ?_;(with_reducible refine (spec_l20Good.calls k _ _ l0 true _ ?side1 ?side2 A5.out).mono ?_);(case side1 => repeat (first | exact (Kd.C_below HR0.out HB.out) | (with_reducible refine Kd.C_alloc ?_ _) | (with_reducible refine Kd.C_drewN ?_ _) | (with_reducible refine Kd.C_drew ?_)));(case side2 => exact HC0.out);rintro e w19 ⟨rfl,hb⟩;refine ⟨_,rfl, ?_⟩;have n0_:=Aside0.mk (Kd.R_below (by (with_reducible repeat (first | apply Kd.R_alloc | apply Kd.R_drewN | apply Kd.R_drew));exact HO141.out) hb);have n1_:=Aside0.mk (Kd.R_below (by (with_reducible repeat (first | apply Kd.R_alloc | apply Kd.R_drewN | apply Kd.R_drew));exact HO144.out) hb);have n2_:=Aside0.mk (blk_below (g:=gb132) (o := .cells #[.int .i64 a1_0, .string a1_1, .bool a1_2, .int .i64 a1_3] 55 (0,0)) (by (with_reducible repeat (first | refine blk_drewN ?_ _ | refine blk_drew ?_ | refine blk_alloc ?_ _));exact BK132.out) hb);have n3_:=Aside0.mk (below_step (by repeat (first | (with_reducible first | exact HB.out | apply below_alloc | apply pw_below_drewN | apply below_drew1 | refine below_set ?_ GE132.out) | exact HB.out)) hb);clear HO141;clear HO144;clear BK132;clear HB;have HO141:=n0_;have HO144:=n1_;have BK132:=n2_;have HB:=n3_;clear n0_ n1_ n2_ n3_;(try clear hb);(try clear hb2);(try clear hk);(try clear hi);obtain ⟨Ao20,co20,eo20⟩ := Kd.R_slice HO144.out;subst eo20) | (go_at_call 59;(with_reducible refine (spec_l20Good.calls k _ _ y142 true _ ?side1 ?side2 A7.out).mono ?_);(case side1 => repeat (first | exact (Kd.R_reads' HO144.out).2.2 | (with_reducible refine Kd.C_alloc ?_ _) | (with_reducible refine Kd.C_drewN ?_ _) | (with_reducible refine Kd.C_drew ?_)));(case side2 => exact (Kd.R_reads' HO144.out).2.1);rintro e w21 ⟨rfl,hb⟩;have n0_:=Aside0.mk (Kd.R_below (by (with_reducible repeat (first | apply Kd.R_alloc | apply Kd.R_drewN | apply Kd.R_drew));exact HO141.out) hb);have n1_:=Aside0.mk (Kd.R_below (by (with_reducible repeat (first | apply Kd.R_alloc | apply Kd.R_drewN | apply Kd.R_drew));exact HO144.out) hb);have n2_:=Aside0.mk (blk_below (g:=gb132) (o := .cells #[.int .i64 a1_0, .string a1_1, .bool a1_2, .int .i64 a1_3] 55 (0,0)) (by (with_reducible repeat (first | refine blk_drewN ?_ _ | refine blk_drew ?_ | refine blk_alloc ?_ _));exact BK132.out) hb);have n3_:=Aside0.mk (below_step (by repeat (first | (with_reducible first | exact HB.out | apply below_alloc | apply pw_below_drewN | apply below_drew1 | refine below_set ?_ GE132.out) | exact HB.out)) hb);clear HO141;clear HO144;clear BK132;clear HB;have HO141:=n0_;have HO144:=n1_;have BK132:=n2_;have HB:=n3_;clear n0_ n1_ n2_ n3_;(try clear hb);(try clear hb2);(try clear hk);(try clear hi)))
     go_ret2
     exact ⟨_,by first | rfl | (simp [errW_none,errW_some] <;> rfl) | (simp [*,errW_none,errW_some] <;> rfl),by (with_reducible repeat (first | apply Kd.R_alloc | apply Kd.R_drewN | apply Kd.R_drew));exact Kd.R_mono HO144.out (fun _ hk => trivial),by repeat (first | (with_reducible first | exact HB.out | apply below_alloc | apply pw_below_drewN | apply below_drew1 | refine below_set ?_ GE132.out) | exact HB.out)⟩
    ·replace c8:=Bool.eq_false_iff.mpr c8
     subst c8
     have H1 : (some ((([] : List (S55))),false)) = some (r1,r2):=by rw [if_neg (show ¬ (false = true) by decide)] at H;exact H
     clear H
     have H:=H1
     clear H1
     obtain ⟨y147,hy147⟩ : ∃ y_ : List (S55),y_ = (([] : List (S55))):=⟨_,rfl⟩
     replace H : (some (y147,false)) = some (r1,r2):=by first | (rw [hy147];with_reducible exact H) | (have H2_:=(Option.bind_some _ _).symm.trans H;rw [hy147];with_reducible exact H2_) | (have H2_:=(Option.bind_some _ _).symm.trans H;with_reducible exact H2_) | with_reducible exact H | (rw [hy147];exact H) | exact H
     have Ny147:=Aside0.mk hy147
     clear hy147
     simp only [Option.some.injEq,Prod.mk.injEq] at H
     obtain ⟨rfl,rfl⟩ := H
     go_enter Try.func39,Try.ntmps39
     try go_wp2_with (first | ((with_reducible refine gate_dst (N:=3) rfl ?_);refine box_event ?hg (N:=3) ?hd (cs:=#[.int .i64 a1_0, .string a1_1, .bool a1_2, .int .i64 a1_3]) (t:=55) ?hr ?_;(case hd => rfl);(case hg => rfl);(case hr => first | (go_simp;done) | (go_simp;rfl));intro gb132 hg w22 hbox hb;have n0_:=Aside0.mk (below_step (by repeat (first | (with_reducible first | exact HB.out | apply below_alloc | apply pw_below_drewN | apply below_drew1) | exact HB.out)) hb);have n1_:=Aside0.mk (hbox);have n2_:=Aside0.mk ((by rw [hg];exact (below_size (by repeat (first | (with_reducible first | exact HB.out | apply below_alloc | apply pw_below_drewN | apply below_drew1) | exact HB.out))) : w.heap.size ≤ gb132));have n3_:=Aside0.mk ((by rw [hg];exact (below_size (by repeat (first | (with_reducible first | exact HB.out | apply below_alloc | apply pw_below_drewN | apply below_drew1) | exact HB.out))) : w.heap.size ≤ gb132));clear HB;have HB:=n0_;have BK132:=n1_;have GW132:=n2_;have GE132:=n3_;clear n0_ n1_ n2_ n3_;clear hb hbox hg))
     have n0_:=Aside0.mk (blk_drew BK132.out)
     have n1_:=Aside0.mk (below_drew1 HB.out)
     clear BK132
     clear HB
     have BK132:=n0_
     have HB:=n1_
     clear n0_ n1_
     refine start_ (n:=7) (S:=fun w' => w'.cell? ⟨gb132,0,none⟩ = some (.int .i64 a1_0) ∧ w'.cell? ⟨gb132,1,none⟩ = some (.string a1_1) ∧ w'.cell? ⟨gb132,2,none⟩ = some (.bool a1_2) ∧ w'.cell? ⟨gb132,3,none⟩ = some (.int .i64 a1_3)) (ds := []) #[false,false,false,false,false,false,false] (by kernel_rfl) rfl rfl ⟨(blk_cell BK132.out 0).trans rfl,(blk_cell BK132.out 1).trans rfl,(blk_cell BK132.out 2).trans rfl,(blk_cell BK132.out 3).trans rfl⟩ (fun hHeld => ?_)
     generalize w22.drew = w23 at BK132 HB hHeld ⊢
     refine pure_ (i:=1) (N:=some 8) (v:=?_) (a':=?_) #[false,true,false,false,false,false,false] rfl rfl (by kernel_rfl) (fun _ _ _ h => h) (Or.inl ⟨by rfl, ?_⟩) ?_ ?_
     rotate_left
     ·intro w'
      go_simp
      with_reducible rfl
     rotate_left
     ·simp only [Act.put,sA_,s0_,s1_,i64_w,i32_w]
      rfl
     refine take_ (i:=3) (N:=some 10) (v:=?_) (a':=?_) #[false,true,false,true,false,false,false] rfl rfl (by kernel_rfl) (fun _ _ _ h => h) (Or.inl ⟨by rfl, ?_⟩) hHeld ?_ ?_
     rotate_left
     ·rintro w' ⟨s0,s1,s2,s3⟩
      go_simp
      with_reducible rfl
     rotate_left
     ·simp only [Act.put,sA_,s0_,s1_,i64_w,i32_w]
      rfl
     refine join_ (σ:=Value × Value × Value) 2 #[true,true,true,true,true,false,false] (fun s_ => [(7,s_.1),(9,s_.2.1),(11,s_.2.2)]) (fun s_ w' => (w'.cell? ⟨gb132,0,none⟩ = some (.int .i64 a1_0) ∧ w'.cell? ⟨gb132,1,none⟩ = some (.string a1_1) ∧ w'.cell? ⟨gb132,2,none⟩ = some (.bool a1_2) ∧ w'.cell? ⟨gb132,3,none⟩ = some (.int .i64 a1_3)) ∧ (Kd.R k55 55 w' w.heap.size (fun k_ => some k_ ≠ (s_.2.2 : Value).ownBlock ∧ k_ ≠ gb132) s_.2.1 y136) ∧ (Kd.R k55 55 w' w.heap.size (fun k_ => some k_ ≠ (s_.2.1 : Value).ownBlock ∧ k_ ≠ gb132) s_.2.2 y139) ∧ (w'.heap[gb132]? = some (.cells #[.int .i64 a1_0, .string a1_1, .bool a1_2, .int .i64 a1_3] 55 (0,0))) ∧ (Below w.heap.size w w')) ?_ ?_
     rotate_left
     ·intro hCont
      refine two_ (i:=0) (j:=4) (Ni:=some 7) (Nj:=some 11) #[true,true,false,true,false,false,false] #[false,true,false,true,true,false,false] rfl rfl rfl rfl (by kernel_rfl) (by decide) (by decide) (fun K hK => ?_) (fun K hK => ?_)
      ·skip
       refine Kd.R_lit_step k55 _ 55 ?hg (N:=7) ?hd (xs:=([] : List (S55))) (inner := []) (ok:=fun _ => True) (okp:=fun _ => True) ?hr ?hp (fun _ hk => hk) trivial (Below.refl _ _) (Nat.le_refl _) (by simp) ?_;(case hd => rfl);(case hg => rfl);(case hr => first | (go_simp;done) | (go_simp;rfl));(case hp => exact (Reps.none _ _))
       intro v134 w24 ho25 hb hg_ hnew_
       clear hg_ hnew_
       (first | rw [← Ny133.out] at ho25 | (simp only [Int.reduceToNat] at ho25;rw [← Ny133.out] at ho25))
       have n0_:=Aside0.mk (Kd.R_lower (Kd.R_newB ho25 (g:=gb132) (o := .cells #[.int .i64 a1_0, .string a1_1, .bool a1_2, .int .i64 a1_3] 55 (0,0)) (by (with_reducible repeat (first | refine blk_drewN ?_ _ | refine blk_drew ?_ | refine blk_alloc ?_ _));exact BK132.out)) (below_size (by repeat (first | (with_reducible first | exact HB.out | apply below_alloc | apply pw_below_drewN | apply below_drew1 | refine below_set ?_ GE132.out) | exact HB.out))))
       have n1_:=Aside0.mk (blk_below (g:=gb132) (o := .cells #[.int .i64 a1_0, .string a1_1, .bool a1_2, .int .i64 a1_3] 55 (0,0)) (by (with_reducible repeat (first | refine blk_drewN ?_ _ | refine blk_drew ?_ | refine blk_alloc ?_ _));exact BK132.out) hb)
       have n2_:=Aside0.mk (below_step (by repeat (first | (with_reducible first | exact HB.out | apply below_alloc | apply pw_below_drewN | apply below_drew1 | refine below_set ?_ GE132.out) | exact HB.out)) hb)
       clear BK132
       clear HB
       have HO135:=n0_
       have BK132:=n1_
       have HB:=n2_
       clear n0_ n1_ n2_
       clear hb ho25
       refine hK.out _ _ ⟨(blk_cell BK132.out 0).trans rfl,(blk_cell BK132.out 1).trans rfl,(blk_cell BK132.out 2).trans rfl,(blk_cell BK132.out 3).trans rfl⟩ (fun hHeld => ?_)
       clear hK K
       refine norm_ (a':=?_) ?_ ?_
       rotate_left
       ·show Act.put _ (some 7) _ = _
        simp only [Act.put,sA_,s0_,s1_,i64_w,i32_w]
        rfl
       refine two_ (i:=2) (j:=4) (Ni:=some 9) (Nj:=some 11) #[true,true,true,true,false,false,false] #[true,true,false,true,true,false,false] rfl rfl rfl rfl (by kernel_rfl) (by decide) (by decide) (fun K hK => ?_) (fun K hK => ?_)
       ·skip
        refine Kd.R_append_rows_step k55 (w0:=w) w.heap.size (by rfl) (.tmp 7) (.tmp 8) 27 55 (.agg #[(.int .i64 0),(.string ⟨#[]⟩),(.bool false),(.int .i64 0)]) 40 rfl Try.underlying27 info55 rfl (by decide) (by omega) v134 y133 l0 _ _ _ (fun k_ => k_ ≠ gb132) (fun _ => False) rfl rfl ?aO ?aR (fun _ _ h => h) (fun _ h => h.elim) ?aF ?aB ?aS ?aL ?_
        (case aR => repeat (first | exact (Kd.C_below HR0.out HB.out) | (with_reducible refine Kd.C_alloc ?_ _) | (with_reducible refine Kd.C_drewN ?_ _) | (with_reducible refine Kd.C_drew ?_)))
        (case aB => exact (by repeat (first | (with_reducible first | exact HB.out | apply below_alloc | apply pw_below_drewN | apply below_drew1 | refine below_set ?_ GE132.out) | exact HB.out)))
        (case aF => exact (fun k_ hk => Kd.freshB (g:=gb132) (o := .cells #[.int .i64 a1_0, .string a1_1, .bool a1_2, .int .i64 a1_3] 55 (0,0)) (by (with_reducible repeat (first | refine blk_drewN ?_ _ | refine blk_drew ?_ | refine blk_alloc ?_ _));exact BK132.out) k_ hk))
        (case aO => exact (by (with_reducible repeat (first | apply Kd.R_alloc | apply Kd.R_drewN | apply Kd.R_drew));exact Kd.R_mono HO135.out (fun _ hk => hk.2)))
        (case aS => exact (below_size (by repeat (first | (with_reducible first | exact HB.out | apply below_alloc | apply pw_below_drewN | apply below_drew1 | refine below_set ?_ GE132.out) | exact HB.out))))
        (case aL => have:=LMc3.out;omega)
        intro v137 w26 ho hb hg hat
        rw [← Ny136.out] at ho
        have n0_:=Aside0.mk (blk_grown (g:=gb132) (o := .cells #[.int .i64 a1_0, .string a1_1, .bool a1_2, .int .i64 a1_3] 55 (0,0)) (by (with_reducible repeat (first | refine blk_drewN ?_ _ | refine blk_drew ?_ | refine blk_alloc ?_ _));exact BK132.out) hg (Kd.R_away HO135.out (fun _ hk => hk.2)))
        have n1_:=Aside0.mk (hb)
        have n2_:=Aside0.mk (ho)
        clear BK132
        clear HB
        clear HO135
        have BK132:=n0_
        have HB:=n1_
        have HO138:=n2_
        clear n0_ n1_ n2_
        clear ho hb hg hat
        refine hK.out _ _ ⟨(blk_cell BK132.out 0).trans rfl,(blk_cell BK132.out 1).trans rfl,(blk_cell BK132.out 2).trans rfl,(blk_cell BK132.out 3).trans rfl⟩ (fun hHeld => ?_)
        clear hK K
        refine norm_ (a':=?_) ?_ ?_
        rotate_left
        ·show Act.put _ (some 9) _ = _
         simp only [Act.put,sA_,s0_,s1_,i64_w,i32_w]
         rfl
        refine one_ (i:=4) (N:=some 11) #[true,true,true,true,true,false,false] rfl rfl (by kernel_rfl) (by decide) (fun K hK => ?_)
        refine Kd.R_lit_step k55 _ 55 ?hg (N:=11) ?hd (xs:=([(⟨a1_0,a1_1,a1_2,a1_3⟩ : S55)] : List (S55))) (inner := [.int .i64 a1_0, .string a1_1, .bool a1_2, .int .i64 a1_3]) (ok:=fun _ => True) (okp:=fun _ => True) ?hr ?hp (fun _ hk => hk) trivial (Below.refl _ _) (Nat.le_refl _) (by simp) ?_;(case hd => rfl);(case hg => rfl);(case hr => first | (go_simp;done) | (go_simp;rfl));(case hp => exact (Reps.c4 (show Kd.M k55 _ _ _ (⟨a1_0,a1_1,a1_2,a1_3⟩ : S55) [.int .i64 a1_0, .string a1_1, .bool a1_2, .int .i64 a1_3] from (k55_mkM _ _ _ (⟨a1_0,a1_1,a1_2,a1_3⟩ : S55) )) (Reps.none _ _)))
        intro v140 w27 ho28 hb hg_ hnew_
        clear hg_ hnew_
        (first | rw [← Ny139.out] at ho28 | (simp only [Int.reduceToNat] at ho28;rw [← Ny139.out] at ho28))
        have n0_:=Aside0.mk (Kd.R_elder' (by (with_reducible repeat (first | apply Kd.R_alloc | apply Kd.R_drewN | apply Kd.R_drew));exact HO138.out) (Kd.R_base ho28) hb)
        have n1_:=Aside0.mk (Kd.R_lower (Kd.R_newB (Kd.R_new' ho28 (Kd.R_lt (by (with_reducible repeat (first | apply Kd.R_alloc | apply Kd.R_drewN | apply Kd.R_drew));exact HO138.out))) (g:=gb132) (o := .cells #[.int .i64 a1_0, .string a1_1, .bool a1_2, .int .i64 a1_3] 55 (0,0)) (by (with_reducible repeat (first | refine blk_drewN ?_ _ | refine blk_drew ?_ | refine blk_alloc ?_ _));exact BK132.out)) (below_size (by repeat (first | (with_reducible first | exact HB.out | apply below_alloc | apply pw_below_drewN | apply below_drew1 | refine below_set ?_ GE132.out) | exact HB.out))))
        have n2_:=Aside0.mk (blk_below (g:=gb132) (o := .cells #[.int .i64 a1_0, .string a1_1, .bool a1_2, .int .i64 a1_3] 55 (0,0)) (by (with_reducible repeat (first | refine blk_drewN ?_ _ | refine blk_drew ?_ | refine blk_alloc ?_ _));exact BK132.out) hb)
        have n3_:=Aside0.mk (below_step (by repeat (first | (with_reducible first | exact HB.out | apply below_alloc | apply pw_below_drewN | apply below_drew1 | refine below_set ?_ GE132.out) | exact HB.out)) hb)
        clear HO138
        clear BK132
        clear HB
        have HO138:=n0_
        have HO141:=n1_
        have BK132:=n2_
        have HB:=n3_
        clear n0_ n1_ n2_ n3_
        clear hb ho28
        refine hK.out _ _ ⟨(blk_cell BK132.out 0).trans rfl,(blk_cell BK132.out 1).trans rfl,(blk_cell BK132.out 2).trans rfl,(blk_cell BK132.out 3).trans rfl⟩ (fun hHeld => ?_)
        clear hK K
        refine norm_ (a':=?_) ?_ ?_
        rotate_left
        ·show Act.put _ (some 11) _ = _
         simp only [Act.put,sA_,s0_,s1_,i64_w,i32_w]
         rfl
        exact norm_ (by simp only [putAll,Act.put,sA_,s0_,s1_]) (hCont (v134,v137,v140) _ ⟨hHeld,(by (with_reducible repeat (first | apply Kd.R_alloc | apply Kd.R_drewN | apply Kd.R_drew));exact Kd.R_mono HO138.out (fun _ hk => ⟨hk.2,hk.1⟩)),(by (with_reducible repeat (first | apply Kd.R_alloc | apply Kd.R_drewN | apply Kd.R_drew));exact Kd.R_mono HO141.out (fun _ hk => ⟨hk.1.2,hk.2⟩)),(by (with_reducible repeat (first | refine blk_drewN ?_ _ | refine blk_drew ?_ | refine blk_alloc ?_ _));exact BK132.out),(by repeat (first | (with_reducible first | exact HB.out | apply below_alloc | apply pw_below_drewN | apply below_drew1 | refine below_set ?_ GE132.out) | exact HB.out))⟩)
       ·skip
        refine Kd.R_lit_step k55 _ 55 ?hg (N:=11) ?hd (xs:=([(⟨a1_0,a1_1,a1_2,a1_3⟩ : S55)] : List (S55))) (inner := [.int .i64 a1_0, .string a1_1, .bool a1_2, .int .i64 a1_3]) (ok:=fun _ => True) (okp:=fun _ => True) ?hr ?hp (fun _ hk => hk) trivial (Below.refl _ _) (Nat.le_refl _) (by simp) ?_;(case hd => rfl);(case hg => rfl);(case hr => first | (go_simp;done) | (go_simp;rfl));(case hp => exact (Reps.c4 (show Kd.M k55 _ _ _ (⟨a1_0,a1_1,a1_2,a1_3⟩ : S55) [.int .i64 a1_0, .string a1_1, .bool a1_2, .int .i64 a1_3] from (k55_mkM _ _ _ (⟨a1_0,a1_1,a1_2,a1_3⟩ : S55) )) (Reps.none _ _)))
        intro v140 w26 ho27 hb hg_ hnew_
        clear hg_ hnew_
        (first | rw [← Ny139.out] at ho27 | (simp only [Int.reduceToNat] at ho27;rw [← Ny139.out] at ho27))
        have n0_:=Aside0.mk (Kd.R_elder' (by (with_reducible repeat (first | apply Kd.R_alloc | apply Kd.R_drewN | apply Kd.R_drew));exact HO135.out) (Kd.R_base ho27) hb)
        have n1_:=Aside0.mk (Kd.R_lower (Kd.R_newB (Kd.R_new' ho27 (Kd.R_lt (by (with_reducible repeat (first | apply Kd.R_alloc | apply Kd.R_drewN | apply Kd.R_drew));exact HO135.out))) (g:=gb132) (o := .cells #[.int .i64 a1_0, .string a1_1, .bool a1_2, .int .i64 a1_3] 55 (0,0)) (by (with_reducible repeat (first | refine blk_drewN ?_ _ | refine blk_drew ?_ | refine blk_alloc ?_ _));exact BK132.out)) (below_size (by repeat (first | (with_reducible first | exact HB.out | apply below_alloc | apply pw_below_drewN | apply below_drew1 | refine below_set ?_ GE132.out) | exact HB.out))))
        have n2_:=Aside0.mk (blk_below (g:=gb132) (o := .cells #[.int .i64 a1_0, .string a1_1, .bool a1_2, .int .i64 a1_3] 55 (0,0)) (by (with_reducible repeat (first | refine blk_drewN ?_ _ | refine blk_drew ?_ | refine blk_alloc ?_ _));exact BK132.out) hb)
        have n3_:=Aside0.mk (below_step (by repeat (first | (with_reducible first | exact HB.out | apply below_alloc | apply pw_below_drewN | apply below_drew1 | refine below_set ?_ GE132.out) | exact HB.out)) hb)
        clear HO135
        clear BK132
        clear HB
        have HO135:=n0_
        have HO141:=n1_
        have BK132:=n2_
        have HB:=n3_
        clear n0_ n1_ n2_ n3_
        clear hb ho27
        refine hK.out _ _ ⟨(blk_cell BK132.out 0).trans rfl,(blk_cell BK132.out 1).trans rfl,(blk_cell BK132.out 2).trans rfl,(blk_cell BK132.out 3).trans rfl⟩ (fun hHeld => ?_)
        clear hK K
        refine norm_ (a':=?_) ?_ ?_
        rotate_left
        ·show Act.put _ (some 11) _ = _
         simp only [Act.put,sA_,s0_,s1_,i64_w,i32_w]
         rfl
        refine one_ (i:=2) (N:=some 9) #[true,true,true,true,true,false,false] rfl rfl (by kernel_rfl) (by decide) (fun K hK => ?_)
        refine Kd.R_append_rows_step k55 (w0:=w) w.heap.size (by rfl) (.tmp 7) (.tmp 8) 27 55 (.agg #[(.int .i64 0),(.string ⟨#[]⟩),(.bool false),(.int .i64 0)]) 40 rfl Try.underlying27 info55 rfl (by decide) (by omega) v134 y133 l0 _ _ _ (fun k_ => some k_ ≠ (v140 : Value).ownBlock ∧ k_ ≠ gb132) (fun _ => False) rfl rfl ?aO ?aR (fun _ _ h => h) (fun _ h => h.elim) ?aF ?aB ?aS ?aL ?_
        (case aR => repeat (first | exact (Kd.C_below HR0.out HB.out) | (with_reducible refine Kd.C_alloc ?_ _) | (with_reducible refine Kd.C_drewN ?_ _) | (with_reducible refine Kd.C_drew ?_)))
        (case aB => exact (by repeat (first | (with_reducible first | exact HB.out | apply below_alloc | apply pw_below_drewN | apply below_drew1 | refine below_set ?_ GE132.out) | exact HB.out)))
        (case aF => exact (fun k_ hk => ⟨Kd.fresh' (Kd.R_lt (by (with_reducible repeat (first | apply Kd.R_alloc | apply Kd.R_drewN | apply Kd.R_drew));exact HO141.out)) k_ hk,Kd.freshB (g:=gb132) (o := .cells #[.int .i64 a1_0, .string a1_1, .bool a1_2, .int .i64 a1_3] 55 (0,0)) (by (with_reducible repeat (first | refine blk_drewN ?_ _ | refine blk_drew ?_ | refine blk_alloc ?_ _));exact BK132.out) k_ hk⟩))
        (case aO => exact (by (with_reducible repeat (first | apply Kd.R_alloc | apply Kd.R_drewN | apply Kd.R_drew));exact Kd.R_mono HO135.out (fun _ hk => ⟨hk.2,hk.1.2⟩)))
        (case aS => exact (below_size (by repeat (first | (with_reducible first | exact HB.out | apply below_alloc | apply pw_below_drewN | apply below_drew1 | refine below_set ?_ GE132.out) | exact HB.out))))
        (case aL => have:=LMc3.out;omega)
        intro v137 w28 ho hb hg hat
        rw [← Ny136.out] at ho
        have n0_:=Aside0.mk (blk_grown (g:=gb132) (o := .cells #[.int .i64 a1_0, .string a1_1, .bool a1_2, .int .i64 a1_3] 55 (0,0)) (by (with_reducible repeat (first | refine blk_drewN ?_ _ | refine blk_drew ?_ | refine blk_alloc ?_ _));exact BK132.out) hg (Kd.R_away HO135.out (fun _ hk => hk.1.2)))
        have n1_:=Aside0.mk (Kd.R_after (ok:=(fun k_ => k_ ≠ gb132)) (by (with_reducible repeat (first | apply Kd.R_alloc | apply Kd.R_drewN | apply Kd.R_drew));exact Kd.R_mono HO141.out (fun _ hk => ⟨hk.2,hk.1.2⟩)) hg hat)
        have n2_:=Aside0.mk (hb)
        have n3_:=Aside0.mk (ho)
        clear BK132
        clear HO141
        clear HB
        clear HO135
        have BK132:=n0_
        have HO141:=n1_
        have HB:=n2_
        have HO138:=n3_
        clear n0_ n1_ n2_ n3_
        clear ho hb hg hat
        refine hK.out _ _ ⟨(blk_cell BK132.out 0).trans rfl,(blk_cell BK132.out 1).trans rfl,(blk_cell BK132.out 2).trans rfl,(blk_cell BK132.out 3).trans rfl⟩ (fun hHeld => ?_)
        clear hK K
        refine norm_ (a':=?_) ?_ ?_
        rotate_left
        ·show Act.put _ (some 9) _ = _
         simp only [Act.put,sA_,s0_,s1_,i64_w,i32_w]
         rfl
        exact norm_ (by simp only [putAll,Act.put,sA_,s0_,s1_]) (hCont (v134,v137,v140) _ ⟨hHeld,(by (with_reducible repeat (first | apply Kd.R_alloc | apply Kd.R_drewN | apply Kd.R_drew));exact HO138.out),(by (with_reducible repeat (first | apply Kd.R_alloc | apply Kd.R_drewN | apply Kd.R_drew));exact Kd.R_mono HO141.out (fun _ hk => ⟨hk.2,hk.1⟩)),(by (with_reducible repeat (first | refine blk_drewN ?_ _ | refine blk_drew ?_ | refine blk_alloc ?_ _));exact BK132.out),(by repeat (first | (with_reducible first | exact HB.out | apply below_alloc | apply pw_below_drewN | apply below_drew1 | refine below_set ?_ GE132.out) | exact HB.out))⟩)
      ·skip
       refine Kd.R_lit_step k55 _ 55 ?hg (N:=11) ?hd (xs:=([(⟨a1_0,a1_1,a1_2,a1_3⟩ : S55)] : List (S55))) (inner := [.int .i64 a1_0, .string a1_1, .bool a1_2, .int .i64 a1_3]) (ok:=fun _ => True) (okp:=fun _ => True) ?hr ?hp (fun _ hk => hk) trivial (Below.refl _ _) (Nat.le_refl _) (by simp) ?_;(case hd => rfl);(case hg => rfl);(case hr => first | (go_simp;done) | (go_simp;rfl));(case hp => exact (Reps.c4 (show Kd.M k55 _ _ _ (⟨a1_0,a1_1,a1_2,a1_3⟩ : S55) [.int .i64 a1_0, .string a1_1, .bool a1_2, .int .i64 a1_3] from (k55_mkM _ _ _ (⟨a1_0,a1_1,a1_2,a1_3⟩ : S55) )) (Reps.none _ _)))
       intro v140 w24 ho25 hb hg_ hnew_
       clear hg_ hnew_
       (first | rw [← Ny139.out] at ho25 | (simp only [Int.reduceToNat] at ho25;rw [← Ny139.out] at ho25))
       have n0_:=Aside0.mk (Kd.R_lower (Kd.R_newB ho25 (g:=gb132) (o := .cells #[.int .i64 a1_0, .string a1_1, .bool a1_2, .int .i64 a1_3] 55 (0,0)) (by (with_reducible repeat (first | refine blk_drewN ?_ _ | refine blk_drew ?_ | refine blk_alloc ?_ _));exact BK132.out)) (below_size (by repeat (first | (with_reducible first | exact HB.out | apply below_alloc | apply pw_below_drewN | apply below_drew1 | refine below_set ?_ GE132.out) | exact HB.out))))
       have n1_:=Aside0.mk (blk_below (g:=gb132) (o := .cells #[.int .i64 a1_0, .string a1_1, .bool a1_2, .int .i64 a1_3] 55 (0,0)) (by (with_reducible repeat (first | refine blk_drewN ?_ _ | refine blk_drew ?_ | refine blk_alloc ?_ _));exact BK132.out) hb)
       have n2_:=Aside0.mk (below_step (by repeat (first | (with_reducible first | exact HB.out | apply below_alloc | apply pw_below_drewN | apply below_drew1 | refine below_set ?_ GE132.out) | exact HB.out)) hb)
       clear BK132
       clear HB
       have HO141:=n0_
       have BK132:=n1_
       have HB:=n2_
       clear n0_ n1_ n2_
       clear hb ho25
       refine hK.out _ _ ⟨(blk_cell BK132.out 0).trans rfl,(blk_cell BK132.out 1).trans rfl,(blk_cell BK132.out 2).trans rfl,(blk_cell BK132.out 3).trans rfl⟩ (fun hHeld => ?_)
       clear hK K
       refine norm_ (a':=?_) ?_ ?_
       rotate_left
       ·show Act.put _ (some 11) _ = _
        simp only [Act.put,sA_,s0_,s1_,i64_w,i32_w]
        rfl
       refine one_ (i:=0) (N:=some 7) #[true,true,false,true,true,false,false] rfl rfl (by kernel_rfl) (by decide) (fun K hK => ?_)
       refine Kd.R_lit_step k55 _ 55 ?hg (N:=7) ?hd (xs:=([] : List (S55))) (inner := []) (ok:=fun _ => True) (okp:=fun _ => True) ?hr ?hp (fun _ hk => hk) trivial (Below.refl _ _) (Nat.le_refl _) (by simp) ?_;(case hd => rfl);(case hg => rfl);(case hr => first | (go_simp;done) | (go_simp;rfl));(case hp => exact (Reps.none _ _))
       intro v134 w26 ho27 hb hg_ hnew_
       clear hg_ hnew_
       (first | rw [← Ny133.out] at ho27 | (simp only [Int.reduceToNat] at ho27;rw [← Ny133.out] at ho27))
       have n0_:=Aside0.mk (Kd.R_elder' (by (with_reducible repeat (first | apply Kd.R_alloc | apply Kd.R_drewN | apply Kd.R_drew));exact HO141.out) (Kd.R_base ho27) hb)
       have n1_:=Aside0.mk (Kd.R_lower (Kd.R_newB (Kd.R_new' ho27 (Kd.R_lt (by (with_reducible repeat (first | apply Kd.R_alloc | apply Kd.R_drewN | apply Kd.R_drew));exact HO141.out))) (g:=gb132) (o := .cells #[.int .i64 a1_0, .string a1_1, .bool a1_2, .int .i64 a1_3] 55 (0,0)) (by (with_reducible repeat (first | refine blk_drewN ?_ _ | refine blk_drew ?_ | refine blk_alloc ?_ _));exact BK132.out)) (below_size (by repeat (first | (with_reducible first | exact HB.out | apply below_alloc | apply pw_below_drewN | apply below_drew1 | refine below_set ?_ GE132.out) | exact HB.out))))
       have n2_:=Aside0.mk (blk_below (g:=gb132) (o := .cells #[.int .i64 a1_0, .string a1_1, .bool a1_2, .int .i64 a1_3] 55 (0,0)) (by (with_reducible repeat (first | refine blk_drewN ?_ _ | refine blk_drew ?_ | refine blk_alloc ?_ _));exact BK132.out) hb)
       have n3_:=Aside0.mk (below_step (by repeat (first | (with_reducible first | exact HB.out | apply below_alloc | apply pw_below_drewN | apply below_drew1 | refine below_set ?_ GE132.out) | exact HB.out)) hb)
       clear HO141
       clear BK132
       clear HB
       have HO141:=n0_
       have HO135:=n1_
       have BK132:=n2_
       have HB:=n3_
       clear n0_ n1_ n2_ n3_
       clear hb ho27
       refine hK.out _ _ ⟨(blk_cell BK132.out 0).trans rfl,(blk_cell BK132.out 1).trans rfl,(blk_cell BK132.out 2).trans rfl,(blk_cell BK132.out 3).trans rfl⟩ (fun hHeld => ?_)
       clear hK K
       refine norm_ (a':=?_) ?_ ?_
       rotate_left
       ·show Act.put _ (some 7) _ = _
        simp only [Act.put,sA_,s0_,s1_,i64_w,i32_w]
        rfl
       refine one_ (i:=2) (N:=some 9) #[true,true,true,true,true,false,false] rfl rfl (by kernel_rfl) (by decide) (fun K hK => ?_)
       refine Kd.R_append_rows_step k55 (w0:=w) w.heap.size (by rfl) (.tmp 7) (.tmp 8) 27 55 (.agg #[(.int .i64 0),(.string ⟨#[]⟩),(.bool false),(.int .i64 0)]) 40 rfl Try.underlying27 info55 rfl (by decide) (by omega) v134 y133 l0 _ _ _ (fun k_ => some k_ ≠ (v140 : Value).ownBlock ∧ k_ ≠ gb132) (fun _ => False) rfl rfl ?aO ?aR (fun _ _ h => h) (fun _ h => h.elim) ?aF ?aB ?aS ?aL ?_
       (case aR => repeat (first | exact (Kd.C_below HR0.out HB.out) | (with_reducible refine Kd.C_alloc ?_ _) | (with_reducible refine Kd.C_drewN ?_ _) | (with_reducible refine Kd.C_drew ?_)))
       (case aB => exact (by repeat (first | (with_reducible first | exact HB.out | apply below_alloc | apply pw_below_drewN | apply below_drew1 | refine below_set ?_ GE132.out) | exact HB.out)))
       (case aF => exact (fun k_ hk => ⟨Kd.fresh' (Kd.R_lt (by (with_reducible repeat (first | apply Kd.R_alloc | apply Kd.R_drewN | apply Kd.R_drew));exact HO141.out)) k_ hk,Kd.freshB (g:=gb132) (o := .cells #[.int .i64 a1_0, .string a1_1, .bool a1_2, .int .i64 a1_3] 55 (0,0)) (by (with_reducible repeat (first | refine blk_drewN ?_ _ | refine blk_drew ?_ | refine blk_alloc ?_ _));exact BK132.out) k_ hk⟩))
       (case aO => exact (by (with_reducible repeat (first | apply Kd.R_alloc | apply Kd.R_drewN | apply Kd.R_drew));exact Kd.R_mono HO135.out (fun _ hk => ⟨hk.1.2,hk.2⟩)))
       (case aS => exact (below_size (by repeat (first | (with_reducible first | exact HB.out | apply below_alloc | apply pw_below_drewN | apply below_drew1 | refine below_set ?_ GE132.out) | exact HB.out))))
       (case aL => have:=LMc3.out;omega)
       intro v137 w28 ho hb hg hat
       rw [← Ny136.out] at ho
       have n0_:=Aside0.mk (blk_grown (g:=gb132) (o := .cells #[.int .i64 a1_0, .string a1_1, .bool a1_2, .int .i64 a1_3] 55 (0,0)) (by (with_reducible repeat (first | refine blk_drewN ?_ _ | refine blk_drew ?_ | refine blk_alloc ?_ _));exact BK132.out) hg (Kd.R_away HO135.out (fun _ hk => hk.2)))
       have n1_:=Aside0.mk (Kd.R_after (ok:=(fun k_ => k_ ≠ gb132)) (by (with_reducible repeat (first | apply Kd.R_alloc | apply Kd.R_drewN | apply Kd.R_drew));exact Kd.R_mono HO141.out (fun _ hk => ⟨hk.1.2,hk.2⟩)) hg hat)
       have n2_:=Aside0.mk (hb)
       have n3_:=Aside0.mk (ho)
       clear BK132
       clear HO141
       clear HB
       clear HO135
       have BK132:=n0_
       have HO141:=n1_
       have HB:=n2_
       have HO138:=n3_
       clear n0_ n1_ n2_ n3_
       clear ho hb hg hat
       refine hK.out _ _ ⟨(blk_cell BK132.out 0).trans rfl,(blk_cell BK132.out 1).trans rfl,(blk_cell BK132.out 2).trans rfl,(blk_cell BK132.out 3).trans rfl⟩ (fun hHeld => ?_)
       clear hK K
       refine norm_ (a':=?_) ?_ ?_
       rotate_left
       ·show Act.put _ (some 9) _ = _
        simp only [Act.put,sA_,s0_,s1_,i64_w,i32_w]
        rfl
       exact norm_ (by simp only [putAll,Act.put,sA_,s0_,s1_]) (hCont (v134,v137,v140) _ ⟨hHeld,(by (with_reducible repeat (first | apply Kd.R_alloc | apply Kd.R_drewN | apply Kd.R_drew));exact HO138.out),(by (with_reducible repeat (first | apply Kd.R_alloc | apply Kd.R_drewN | apply Kd.R_drew));exact Kd.R_mono HO141.out (fun _ hk => ⟨hk.2,hk.1⟩)),(by (with_reducible repeat (first | refine blk_drewN ?_ _ | refine blk_drew ?_ | refine blk_alloc ?_ _));exact BK132.out),(by repeat (first | (with_reducible first | exact HB.out | apply below_alloc | apply pw_below_drewN | apply below_drew1 | refine below_set ?_ GE132.out) | exact HB.out))⟩)
     rintro ⟨v134,v137,v140⟩ w29 ⟨hS_,h0_,h1_,h2_,h3_⟩
     have n0_ : Aside0 (Kd.R k55 55 w29 w.heap.size (fun k_ => some k_ ≠ (v140 : Value).ownBlock ∧ k_ ≠ gb132) v137 y136):=⟨h0_⟩
     have n1_ : Aside0 (Kd.R k55 55 w29 w.heap.size (fun k_ => some k_ ≠ (v137 : Value).ownBlock ∧ k_ ≠ gb132) v140 y139):=⟨h1_⟩
     have n2_ : Aside0 (w29.heap[gb132]? = some (.cells #[.int .i64 a1_0, .string a1_1, .bool a1_2, .int .i64 a1_3] 55 (0,0))):=⟨h2_⟩
     have n3_ : Aside0 (Below w.heap.size w w29):=⟨h3_⟩
     clear BK132
     clear HB
     clear h0_ h1_ h2_ h3_
     have HO138:=n0_
     have HO141:=n1_
     have BK132:=n2_
     have HB:=n3_
     clear n0_ n1_ n2_ n3_
     have hHeld : w29.cell? ⟨gb132,0,none⟩ = some (.int .i64 a1_0) ∧ w29.cell? ⟨gb132,1,none⟩ = some (.string a1_1) ∧ w29.cell? ⟨gb132,2,none⟩ = some (.bool a1_2) ∧ w29.cell? ⟨gb132,3,none⟩ = some (.int .i64 a1_3):=hS_
     obtain ⟨Ao31,co31,eo31⟩ := Kd.R_slice HO141.out
     (first | subst eo31 | (injection eo31 with f1_ f2_ f3_;have f4_:=f1_.symm;have f5_:=f3_.symm;clear f1_ f2_ f3_;subst f4_;subst f5_))
     refine norm_ (a':=?_) ?_ ?_
     rotate_left
     ·simp only [putAll,Act.put,sA_,s0_,s1_]
      rfl
     refine one_ (i:=5) (N:=some 12) #[true,true,true,true,true,true,false] rfl rfl (by kernel_rfl) (by decide) (fun K hK => ?_)
     refine Kd.R_append_rows_step k55 (w0:=w) w.heap.size (by rfl) (.tmp 9) (.tmp 11) 27 55 (.agg #[(.int .i64 0),(.string ⟨#[]⟩),(.bool false),(.int .i64 0)]) 40 rfl Try.underlying27 info55 rfl (by decide) (by omega) v137 y136 y139 _ _ _ (fun k_ => some k_ ≠ (.slice Ao31 y139.length co31 : Value).ownBlock ∧ k_ ≠ gb132) (fun _ => False) rfl rfl ?aO ?aR (fun _ _ h => h) (fun _ h => h.elim) ?aF ?aB ?aS ?aL ?_
     (case aR => repeat (first | exact (Kd.R_reads' HO141.out).2.2 | (with_reducible refine Kd.C_alloc ?_ _) | (with_reducible refine Kd.C_drewN ?_ _) | (with_reducible refine Kd.C_drew ?_)))
     (case aB => exact (by repeat (first | (with_reducible first | exact HB.out | apply below_alloc | apply pw_below_drewN | apply below_drew1 | refine below_set ?_ GE132.out) | exact HB.out)))
     (case aF => exact (fun k_ hk => ⟨Kd.fresh' (Kd.R_lt (by (with_reducible repeat (first | apply Kd.R_alloc | apply Kd.R_drewN | apply Kd.R_drew));exact HO141.out)) k_ hk,Kd.freshB (g:=gb132) (o := .cells #[.int .i64 a1_0, .string a1_1, .bool a1_2, .int .i64 a1_3] 55 (0,0)) (by (with_reducible repeat (first | refine blk_drewN ?_ _ | refine blk_drew ?_ | refine blk_alloc ?_ _));exact BK132.out) k_ hk⟩))
     (case aO => exact (by (with_reducible repeat (first | apply Kd.R_alloc | apply Kd.R_drewN | apply Kd.R_drew));exact HO138.out))
     (case aS => exact (below_size (by repeat (first | (with_reducible first | exact HB.out | apply below_alloc | apply pw_below_drewN | apply below_drew1 | refine below_set ?_ GE132.out) | exact HB.out))))
     (case aL => have:=LMc4.out;omega)
     intro v143 w30 ho hb hg hat
     rw [← Ny142.out] at ho
     have n0_:=Aside0.mk (blk_grown (g:=gb132) (o := .cells #[.int .i64 a1_0, .string a1_1, .bool a1_2, .int .i64 a1_3] 55 (0,0)) (by (with_reducible repeat (first | refine blk_drewN ?_ _ | refine blk_drew ?_ | refine blk_alloc ?_ _));exact BK132.out) hg (Kd.R_away HO138.out (fun _ hk => hk.2)))
     have n1_:=Aside0.mk (Kd.R_after (ok:=(fun k_ => k_ ≠ gb132)) (by (with_reducible repeat (first | apply Kd.R_alloc | apply Kd.R_drewN | apply Kd.R_drew));exact Kd.R_mono HO141.out (fun _ hk => ⟨hk.2,hk.1⟩)) hg hat)
     have n2_:=Aside0.mk (hb)
     have n3_:=Aside0.mk (ho)
     clear BK132
     clear HO141
     clear HB
     clear HO138
     have BK132:=n0_
     have HO141:=n1_
     have HB:=n2_
     have HO144:=n3_
     clear n0_ n1_ n2_ n3_
     clear ho hb hg hat
     refine hK.out _ _ ⟨(blk_cell BK132.out 0).trans rfl,(blk_cell BK132.out 1).trans rfl,(blk_cell BK132.out 2).trans rfl,(blk_cell BK132.out 3).trans rfl⟩ (fun hHeld => ?_)
     clear hK K
     refine norm_ (a':=?_) ?_ ?_
     rotate_left
     ·show Act.put _ (some 12) _ = _
      simp only [Act.put,sA_,s0_,s1_,i64_w,i32_w]
      rfl
     refine pure_ (i:=6) (N:=some 6) (v:=?_) (a':=?_) #[true,true,true,true,true,true,true] rfl rfl (by kernel_rfl) (fun _ _ _ h => h) (Or.inl ⟨by rfl, ?_⟩) ?_ ?_
     rotate_left
     ·intro w'
      go_simp
      with_reducible rfl
     rotate_left
     ·simp only [Act.put,sA_,s0_,s1_,i64_w,i32_w]
      rfl
     refine done_ (by kernel_rfl) ?_
     try go_wp2_with (first | ((with_reducible refine gate_callee (f:=59) rfl ?_);refine goesL_ (some 14) rfl rfl Try.func59 (by kernel_rfl) rfl #[.slice A0 l0.length c0] rfl (by (try simp only [List.map_toArray,List.map_cons,List.map_nil]);first | done | rfl | (simp only [List.length_drop,List.length_take];rfl)) ?_;(with_reducible refine (spec_l20Good.calls k _ _ l0 true _ ?side1 ?side2 A5.out).mono ?_);(case side1 => repeat (first | exact (Kd.C_below HR0.out HB.out) | (with_reducible refine Kd.C_alloc ?_ _) | (with_reducible refine Kd.C_drewN ?_ _) | (with_reducible refine Kd.C_drew ?_)));(case side2 => exact HC0.out);rintro e w32 ⟨rfl,hb⟩;refine ⟨_,rfl, ?_⟩;have n0_:=Aside0.mk (Kd.R_below (by (with_reducible repeat (first | apply Kd.R_alloc | apply Kd.R_drewN | apply Kd.R_drew));exact HO141.out) hb);have n1_:=Aside0.mk (Kd.R_below (by (with_reducible repeat (first | apply Kd.R_alloc | apply Kd.R_drewN | apply Kd.R_drew));exact HO144.out) hb);have n2_:=Aside0.mk (blk_below (g:=gb132) (o := .cells #[.int .i64 a1_0, .string a1_1, .bool a1_2, .int .i64 a1_3] 55 (0,0)) (by (with_reducible repeat (first | refine blk_drewN ?_ _ | refine blk_drew ?_ | refine blk_alloc ?_ _));exact BK132.out) hb);have n3_:=Aside0.mk (below_step (by repeat (first | (with_reducible first | exact HB.out | apply below_alloc | apply pw_below_drewN | apply below_drew1 | refine below_set ?_ GE132.out) | exact HB.out)) hb);clear HO141;clear HO144;clear BK132;clear HB;have HO141:=n0_;have HO144:=n1_;have BK132:=n2_;have HB:=n3_;clear n0_ n1_ n2_ n3_;(try clear hb);(try clear hb2);(try clear hk);(try clear hi);obtain ⟨Ao33,co33,eo33⟩ := Kd.R_slice HO144.out;subst eo33) | (go_at_call 59;(with_reducible refine (spec_l20Good.calls k _ _ y142 false _ ?side1 ?side2 A7.out).mono ?_);(case side1 => repeat (first | exact (Kd.R_reads' HO144.out).2.2 | (with_reducible refine Kd.C_alloc ?_ _) | (with_reducible refine Kd.C_drewN ?_ _) | (with_reducible refine Kd.C_drew ?_)));(case side2 => exact (Kd.R_reads' HO144.out).2.1);rintro e w34 ⟨rfl,hb⟩;have n0_:=Aside0.mk (Kd.R_below (by (with_reducible repeat (first | apply Kd.R_alloc | apply Kd.R_drewN | apply Kd.R_drew));exact HO141.out) hb);have n1_:=Aside0.mk (Kd.R_below (by (with_reducible repeat (first | apply Kd.R_alloc | apply Kd.R_drewN | apply Kd.R_drew));exact HO144.out) hb);have n2_:=Aside0.mk (blk_below (g:=gb132) (o := .cells #[.int .i64 a1_0, .string a1_1, .bool a1_2, .int .i64 a1_3] 55 (0,0)) (by (with_reducible repeat (first | refine blk_drewN ?_ _ | refine blk_drew ?_ | refine blk_alloc ?_ _));exact BK132.out) hb);have n3_:=Aside0.mk (below_step (by repeat (first | (with_reducible first | exact HB.out | apply below_alloc | apply pw_below_drewN | apply below_drew1 | refine below_set ?_ GE132.out) | exact HB.out)) hb);clear HO141;clear HO144;clear BK132;clear HB;have HO141:=n0_;have HO144:=n1_;have BK132:=n2_;have HB:=n3_;clear n0_ n1_ n2_ n3_;(try clear hb);(try clear hb2);(try clear hk);(try clear hi)) | ((with_reducible refine gate_dst (N:=21) rfl ?_);refine Kd.R_lit k55 _ 55 ?hg (N:=21) ?hd (xs:=([] : List (S55))) (inner := []) (ok:=fun _ => True) (okp:=fun _ => True) ?hr ?hp (fun _ hk => hk) trivial (Below.refl _ _) (Nat.le_refl _) (by simp) ?_;(case hd => rfl);(case hg => rfl);(case hr => first | (go_simp;done) | (go_simp;rfl));(case hp => exact (Reps.none _ _));intro v148 w35 ho36 hb hg_ hnew_;clear hg_ hnew_;(first | rw [← Ny147.out] at ho36 | (simp only [Int.reduceToNat] at ho36;rw [← Ny147.out] at ho36));have n0_:=Aside0.mk (Kd.R_elder' (by (with_reducible repeat (first | apply Kd.R_alloc | apply Kd.R_drewN | apply Kd.R_drew));exact HO141.out) (Kd.R_base ho36) hb);have n1_:=Aside0.mk (Kd.R_elder' (by (with_reducible repeat (first | apply Kd.R_alloc | apply Kd.R_drewN | apply Kd.R_drew));exact HO144.out) (Kd.R_base ho36) hb);have n2_:=Aside0.mk (Kd.R_lower (Kd.R_newB (Kd.R_new' (Kd.R_new' ho36 (Kd.R_lt (by (with_reducible repeat (first | apply Kd.R_alloc | apply Kd.R_drewN | apply Kd.R_drew));exact HO141.out))) (Kd.R_lt (by (with_reducible repeat (first | apply Kd.R_alloc | apply Kd.R_drewN | apply Kd.R_drew));exact HO144.out))) (g:=gb132) (o := .cells #[.int .i64 a1_0, .string a1_1, .bool a1_2, .int .i64 a1_3] 55 (0,0)) (by (with_reducible repeat (first | refine blk_drewN ?_ _ | refine blk_drew ?_ | refine blk_alloc ?_ _));exact BK132.out)) (below_size (by repeat (first | (with_reducible first | exact HB.out | apply below_alloc | apply pw_below_drewN | apply below_drew1 | refine below_set ?_ GE132.out) | exact HB.out))));have n3_:=Aside0.mk (blk_below (g:=gb132) (o := .cells #[.int .i64 a1_0, .string a1_1, .bool a1_2, .int .i64 a1_3] 55 (0,0)) (by (with_reducible repeat (first | refine blk_drewN ?_ _ | refine blk_drew ?_ | refine blk_alloc ?_ _));exact BK132.out) hb);have n4_:=Aside0.mk (below_step (by repeat (first | (with_reducible first | exact HB.out | apply below_alloc | apply pw_below_drewN | apply below_drew1 | refine below_set ?_ GE132.out) | exact HB.out)) hb);clear HO141;clear HO144;clear BK132;clear HB;have HO141:=n0_;have HO144:=n1_;have HO149:=n2_;have BK132:=n3_;have HB:=n4_;clear n0_ n1_ n2_ n3_ n4_;clear hb ho36))
     go_ret2
     exact ⟨_,by first | rfl | (simp [errW_none,errW_some] <;> rfl) | (simp [*,errW_none,errW_some] <;> rfl),by (with_reducible repeat (first | apply Kd.R_alloc | apply Kd.R_drewN | apply Kd.R_drew));exact Kd.R_mono HO149.out (fun _ hk => trivial),by repeat (first | (with_reducible first | exact HB.out | apply below_alloc | apply pw_below_drewN | apply below_drew1 | refine below_set ?_ GE132.out) | exact HB.out)⟩
   ·replace c6:=Bool.eq_false_iff.mpr c6
    subst c6
    have H1 : (some ((([] : List (S55))),false)) = some (r1,r2):=by rw [if_neg (show ¬ (false = true) by decide)] at H;exact H
    clear H
    have H:=H1
    clear H1
    obtain ⟨y150,hy150⟩ : ∃ y_ : List (S55),y_ = (([] : List (S55))):=⟨_,rfl⟩
    replace H : (some (y150,false)) = some (r1,r2):=by first | (rw [hy150];with_reducible exact H) | (have H2_:=(Option.bind_some _ _).symm.trans H;rw [hy150];with_reducible exact H2_) | (have H2_:=(Option.bind_some _ _).symm.trans H;with_reducible exact H2_) | with_reducible exact H | (rw [hy150];exact H) | exact H
    have Ny150:=Aside0.mk hy150
    clear hy150
    simp only [Option.some.injEq,Prod.mk.injEq] at H
    obtain ⟨rfl,rfl⟩ := H
    go_enter Try.func39,Try.ntmps39
    try go_wp2_with (first | ((with_reducible refine gate_dst (N:=3) rfl ?_);refine box_event ?hg (N:=3) ?hd (cs:=#[.int .i64 a1_0, .string a1_1, .bool a1_2, .int .i64 a1_3]) (t:=55) ?hr ?_;(case hd => rfl);(case hg => rfl);(case hr => first | (go_simp;done) | (go_simp;rfl));intro gb132 hg w37 hbox hb;have n0_:=Aside0.mk (below_step (by repeat (first | (with_reducible first | exact HB.out | apply below_alloc | apply pw_below_drewN | apply below_drew1) | exact HB.out)) hb);have n1_:=Aside0.mk (hbox);have n2_:=Aside0.mk ((by rw [hg];exact (below_size (by repeat (first | (with_reducible first | exact HB.out | apply below_alloc | apply pw_below_drewN | apply below_drew1) | exact HB.out))) : w.heap.size ≤ gb132));have n3_:=Aside0.mk ((by rw [hg];exact (below_size (by repeat (first | (with_reducible first | exact HB.out | apply below_alloc | apply pw_below_drewN | apply below_drew1) | exact HB.out))) : w.heap.size ≤ gb132));clear HB;have HB:=n0_;have BK132:=n1_;have GW132:=n2_;have GE132:=n3_;clear n0_ n1_ n2_ n3_;clear hb hbox hg))
    have n0_:=Aside0.mk (blk_drew BK132.out)
    have n1_:=Aside0.mk (below_drew1 HB.out)
    clear BK132
    clear HB
    have BK132:=n0_
    have HB:=n1_
    clear n0_ n1_
    refine start_ (n:=7) (S:=fun w' => w'.cell? ⟨gb132,0,none⟩ = some (.int .i64 a1_0) ∧ w'.cell? ⟨gb132,1,none⟩ = some (.string a1_1) ∧ w'.cell? ⟨gb132,2,none⟩ = some (.bool a1_2) ∧ w'.cell? ⟨gb132,3,none⟩ = some (.int .i64 a1_3)) (ds := []) #[false,false,false,false,false,false,false] (by kernel_rfl) rfl rfl ⟨(blk_cell BK132.out 0).trans rfl,(blk_cell BK132.out 1).trans rfl,(blk_cell BK132.out 2).trans rfl,(blk_cell BK132.out 3).trans rfl⟩ (fun hHeld => ?_)
    generalize w37.drew = w38 at BK132 HB hHeld ⊢
    refine pure_ (i:=1) (N:=some 8) (v:=?_) (a':=?_) #[false,true,false,false,false,false,false] rfl rfl (by kernel_rfl) (fun _ _ _ h => h) (Or.inl ⟨by rfl, ?_⟩) ?_ ?_
    rotate_left
    ·intro w'
     go_simp
     with_reducible rfl
    rotate_left
    ·simp only [Act.put,sA_,s0_,s1_,i64_w,i32_w]
     rfl
    refine take_ (i:=3) (N:=some 10) (v:=?_) (a':=?_) #[false,true,false,true,false,false,false] rfl rfl (by kernel_rfl) (fun _ _ _ h => h) (Or.inl ⟨by rfl, ?_⟩) hHeld ?_ ?_
    rotate_left
    ·rintro w' ⟨s0,s1,s2,s3⟩
     go_simp
     with_reducible rfl
    rotate_left
    ·simp only [Act.put,sA_,s0_,s1_,i64_w,i32_w]
     rfl
    refine join_ (σ:=Value × Value × Value) 2 #[true,true,true,true,true,false,false] (fun s_ => [(7,s_.1),(9,s_.2.1),(11,s_.2.2)]) (fun s_ w' => (w'.cell? ⟨gb132,0,none⟩ = some (.int .i64 a1_0) ∧ w'.cell? ⟨gb132,1,none⟩ = some (.string a1_1) ∧ w'.cell? ⟨gb132,2,none⟩ = some (.bool a1_2) ∧ w'.cell? ⟨gb132,3,none⟩ = some (.int .i64 a1_3)) ∧ (Kd.R k55 55 w' w.heap.size (fun k_ => some k_ ≠ (s_.2.2 : Value).ownBlock ∧ k_ ≠ gb132) s_.2.1 y136) ∧ (Kd.R k55 55 w' w.heap.size (fun k_ => some k_ ≠ (s_.2.1 : Value).ownBlock ∧ k_ ≠ gb132) s_.2.2 y139) ∧ (w'.heap[gb132]? = some (.cells #[.int .i64 a1_0, .string a1_1, .bool a1_2, .int .i64 a1_3] 55 (0,0))) ∧ (Below w.heap.size w w')) ?_ ?_
    rotate_left
    ·intro hCont
     refine two_ (i:=0) (j:=4) (Ni:=some 7) (Nj:=some 11) #[true,true,false,true,false,false,false] #[false,true,false,true,true,false,false] rfl rfl rfl rfl (by kernel_rfl) (by decide) (by decide) (fun K hK => ?_) (fun K hK => ?_)
     ·skip
      refine Kd.R_lit_step k55 _ 55 ?hg (N:=7) ?hd (xs:=([] : List (S55))) (inner := []) (ok:=fun _ => True) (okp:=fun _ => True) ?hr ?hp (fun _ hk => hk) trivial (Below.refl _ _) (Nat.le_refl _) (by simp) ?_;(case hd => rfl);(case hg => rfl);(case hr => first | (go_simp;done) | (go_simp;rfl));(case hp => exact (Reps.none _ _))
      intro v134 w39 ho40 hb hg_ hnew_
      clear hg_ hnew_
      (first | rw [← Ny133.out] at ho40 | (simp only [Int.reduceToNat] at ho40;rw [← Ny133.out] at ho40))
      have n0_:=Aside0.mk (Kd.R_lower (Kd.R_newB ho40 (g:=gb132) (o := .cells #[.int .i64 a1_0, .string a1_1, .bool a1_2, .int .i64 a1_3] 55 (0,0)) (by (with_reducible repeat (first | refine blk_drewN ?_ _ | refine blk_drew ?_ | refine blk_alloc ?_ _));exact BK132.out)) (below_size (by repeat (first | (with_reducible first | exact HB.out | apply below_alloc | apply pw_below_drewN | apply below_drew1 | refine below_set ?_ GE132.out) | exact HB.out))))
      have n1_:=Aside0.mk (blk_below (g:=gb132) (o := .cells #[.int .i64 a1_0, .string a1_1, .bool a1_2, .int .i64 a1_3] 55 (0,0)) (by (with_reducible repeat (first | refine blk_drewN ?_ _ | refine blk_drew ?_ | refine blk_alloc ?_ _));exact BK132.out) hb)
      have n2_:=Aside0.mk (below_step (by repeat (first | (with_reducible first | exact HB.out | apply below_alloc | apply pw_below_drewN | apply below_drew1 | refine below_set ?_ GE132.out) | exact HB.out)) hb)
      clear BK132
      clear HB
      have HO135:=n0_
      have BK132:=n1_
      have HB:=n2_
      clear n0_ n1_ n2_
      clear hb ho40
      refine hK.out _ _ ⟨(blk_cell BK132.out 0).trans rfl,(blk_cell BK132.out 1).trans rfl,(blk_cell BK132.out 2).trans rfl,(blk_cell BK132.out 3).trans rfl⟩ (fun hHeld => ?_)
      clear hK K
      refine norm_ (a':=?_) ?_ ?_
      rotate_left
      ·show Act.put _ (some 7) _ = _
       simp only [Act.put,sA_,s0_,s1_,i64_w,i32_w]
       rfl
      refine two_ (i:=2) (j:=4) (Ni:=some 9) (Nj:=some 11) #[true,true,true,true,false,false,false] #[true,true,false,true,true,false,false] rfl rfl rfl rfl (by kernel_rfl) (by decide) (by decide) (fun K hK => ?_) (fun K hK => ?_)
      ·skip
       refine Kd.R_append_rows_step k55 (w0:=w) w.heap.size (by rfl) (.tmp 7) (.tmp 8) 27 55 (.agg #[(.int .i64 0),(.string ⟨#[]⟩),(.bool false),(.int .i64 0)]) 40 rfl Try.underlying27 info55 rfl (by decide) (by omega) v134 y133 l0 _ _ _ (fun k_ => k_ ≠ gb132) (fun _ => False) rfl rfl ?aO ?aR (fun _ _ h => h) (fun _ h => h.elim) ?aF ?aB ?aS ?aL ?_
       (case aR => repeat (first | exact (Kd.C_below HR0.out HB.out) | (with_reducible refine Kd.C_alloc ?_ _) | (with_reducible refine Kd.C_drewN ?_ _) | (with_reducible refine Kd.C_drew ?_)))
       (case aB => exact (by repeat (first | (with_reducible first | exact HB.out | apply below_alloc | apply pw_below_drewN | apply below_drew1 | refine below_set ?_ GE132.out) | exact HB.out)))
       (case aF => exact (fun k_ hk => Kd.freshB (g:=gb132) (o := .cells #[.int .i64 a1_0, .string a1_1, .bool a1_2, .int .i64 a1_3] 55 (0,0)) (by (with_reducible repeat (first | refine blk_drewN ?_ _ | refine blk_drew ?_ | refine blk_alloc ?_ _));exact BK132.out) k_ hk))
       (case aO => exact (by (with_reducible repeat (first | apply Kd.R_alloc | apply Kd.R_drewN | apply Kd.R_drew));exact Kd.R_mono HO135.out (fun _ hk => hk.2)))
       (case aS => exact (below_size (by repeat (first | (with_reducible first | exact HB.out | apply below_alloc | apply pw_below_drewN | apply below_drew1 | refine below_set ?_ GE132.out) | exact HB.out))))
       (case aL => have:=LMc3.out;omega)
       intro v137 w41 ho hb hg hat
       rw [← Ny136.out] at ho
       have n0_:=Aside0.mk (blk_grown (g:=gb132) (o := .cells #[.int .i64 a1_0, .string a1_1, .bool a1_2, .int .i64 a1_3] 55 (0,0)) (by (with_reducible repeat (first | refine blk_drewN ?_ _ | refine blk_drew ?_ | refine blk_alloc ?_ _));exact BK132.out) hg (Kd.R_away HO135.out (fun _ hk => hk.2)))
       have n1_:=Aside0.mk (hb)
       have n2_:=Aside0.mk (ho)
       clear BK132
       clear HB
       clear HO135
       have BK132:=n0_
       have HB:=n1_
       have HO138:=n2_
       clear n0_ n1_ n2_
       clear ho hb hg hat
       refine hK.out _ _ ⟨(blk_cell BK132.out 0).trans rfl,(blk_cell BK132.out 1).trans rfl,(blk_cell BK132.out 2).trans rfl,(blk_cell BK132.out 3).trans rfl⟩ (fun hHeld => ?_)
       clear hK K
       refine norm_ (a':=?_) ?_ ?_
       rotate_left
       ·show Act.put _ (some 9) _ = _
        simp only [Act.put,sA_,s0_,s1_,i64_w,i32_w]
        rfl
       refine one_ (i:=4) (N:=some 11) #[true,true,true,true,true,false,false] rfl rfl (by kernel_rfl) (by decide) (fun K hK => ?_)
       refine Kd.R_lit_step k55 _ 55 ?hg (N:=11) ?hd (xs:=([(⟨a1_0,a1_1,a1_2,a1_3⟩ : S55)] : List (S55))) (inner := [.int .i64 a1_0, .string a1_1, .bool a1_2, .int .i64 a1_3]) (ok:=fun _ => True) (okp:=fun _ => True) ?hr ?hp (fun _ hk => hk) trivial (Below.refl _ _) (Nat.le_refl _) (by simp) ?_;(case hd => rfl);(case hg => rfl);(case hr => first | (go_simp;done) | (go_simp;rfl));(case hp => exact (Reps.c4 (show Kd.M k55 _ _ _ (⟨a1_0,a1_1,a1_2,a1_3⟩ : S55) [.int .i64 a1_0, .string a1_1, .bool a1_2, .int .i64 a1_3] from (k55_mkM _ _ _ (⟨a1_0,a1_1,a1_2,a1_3⟩ : S55) )) (Reps.none _ _)))
       intro v140 w42 ho43 hb hg_ hnew_
       clear hg_ hnew_
       (first | rw [← Ny139.out] at ho43 | (simp only [Int.reduceToNat] at ho43;rw [← Ny139.out] at ho43))
       have n0_:=Aside0.mk (Kd.R_elder' (by (with_reducible repeat (first | apply Kd.R_alloc | apply Kd.R_drewN | apply Kd.R_drew));exact HO138.out) (Kd.R_base ho43) hb)
       have n1_:=Aside0.mk (Kd.R_lower (Kd.R_newB (Kd.R_new' ho43 (Kd.R_lt (by (with_reducible repeat (first | apply Kd.R_alloc | apply Kd.R_drewN | apply Kd.R_drew));exact HO138.out))) (g:=gb132) (o := .cells #[.int .i64 a1_0, .string a1_1, .bool a1_2, .int .i64 a1_3] 55 (0,0)) (by (with_reducible repeat (first | refine blk_drewN ?_ _ | refine blk_drew ?_ | refine blk_alloc ?_ _));exact BK132.out)) (below_size (by repeat (first | (with_reducible first | exact HB.out | apply below_alloc | apply pw_below_drewN | apply below_drew1 | refine below_set ?_ GE132.out) | exact HB.out))))
       have n2_:=Aside0.mk (blk_below (g:=gb132) (o := .cells #[.int .i64 a1_0, .string a1_1, .bool a1_2, .int .i64 a1_3] 55 (0,0)) (by (with_reducible repeat (first | refine blk_drewN ?_ _ | refine blk_drew ?_ | refine blk_alloc ?_ _));exact BK132.out) hb)
       have n3_:=Aside0.mk (below_step (by repeat (first | (with_reducible first | exact HB.out | apply below_alloc | apply pw_below_drewN | apply below_drew1 | refine below_set ?_ GE132.out) | exact HB.out)) hb)
       clear HO138
       clear BK132
       clear HB
       have HO138:=n0_
       have HO141:=n1_
       have BK132:=n2_
       have HB:=n3_
       clear n0_ n1_ n2_ n3_
       clear hb ho43
       refine hK.out _ _ ⟨(blk_cell BK132.out 0).trans rfl,(blk_cell BK132.out 1).trans rfl,(blk_cell BK132.out 2).trans rfl,(blk_cell BK132.out 3).trans rfl⟩ (fun hHeld => ?_)
       clear hK K
       refine norm_ (a':=?_) ?_ ?_
       rotate_left
       ·show Act.put _ (some 11) _ = _
        simp only [Act.put,sA_,s0_,s1_,i64_w,i32_w]
        rfl
       exact norm_ (by simp only [putAll,Act.put,sA_,s0_,s1_]) (hCont (v134,v137,v140) _ ⟨hHeld,(by (with_reducible repeat (first | apply Kd.R_alloc | apply Kd.R_drewN | apply Kd.R_drew));exact Kd.R_mono HO138.out (fun _ hk => ⟨hk.2,hk.1⟩)),(by (with_reducible repeat (first | apply Kd.R_alloc | apply Kd.R_drewN | apply Kd.R_drew));exact Kd.R_mono HO141.out (fun _ hk => ⟨hk.1.2,hk.2⟩)),(by (with_reducible repeat (first | refine blk_drewN ?_ _ | refine blk_drew ?_ | refine blk_alloc ?_ _));exact BK132.out),(by repeat (first | (with_reducible first | exact HB.out | apply below_alloc | apply pw_below_drewN | apply below_drew1 | refine below_set ?_ GE132.out) | exact HB.out))⟩)
      ·skip
       refine Kd.R_lit_step k55 _ 55 ?hg (N:=11) ?hd (xs:=([(⟨a1_0,a1_1,a1_2,a1_3⟩ : S55)] : List (S55))) (inner := [.int .i64 a1_0, .string a1_1, .bool a1_2, .int .i64 a1_3]) (ok:=fun _ => True) (okp:=fun _ => True) ?hr ?hp (fun _ hk => hk) trivial (Below.refl _ _) (Nat.le_refl _) (by simp) ?_;(case hd => rfl);(case hg => rfl);(case hr => first | (go_simp;done) | (go_simp;rfl));(case hp => exact (Reps.c4 (show Kd.M k55 _ _ _ (⟨a1_0,a1_1,a1_2,a1_3⟩ : S55) [.int .i64 a1_0, .string a1_1, .bool a1_2, .int .i64 a1_3] from (k55_mkM _ _ _ (⟨a1_0,a1_1,a1_2,a1_3⟩ : S55) )) (Reps.none _ _)))
       intro v140 w41 ho42 hb hg_ hnew_
       clear hg_ hnew_
       (first | rw [← Ny139.out] at ho42 | (simp only [Int.reduceToNat] at ho42;rw [← Ny139.out] at ho42))
       have n0_:=Aside0.mk (Kd.R_elder' (by (with_reducible repeat (first | apply Kd.R_alloc | apply Kd.R_drewN | apply Kd.R_drew));exact HO135.out) (Kd.R_base ho42) hb)
       have n1_:=Aside0.mk (Kd.R_lower (Kd.R_newB (Kd.R_new' ho42 (Kd.R_lt (by (with_reducible repeat (first | apply Kd.R_alloc | apply Kd.R_drewN | apply Kd.R_drew));exact HO135.out))) (g:=gb132) (o := .cells #[.int .i64 a1_0, .string a1_1, .bool a1_2, .int .i64 a1_3] 55 (0,0)) (by (with_reducible repeat (first | refine blk_drewN ?_ _ | refine blk_drew ?_ | refine blk_alloc ?_ _));exact BK132.out)) (below_size (by repeat (first | (with_reducible first | exact HB.out | apply below_alloc | apply pw_below_drewN | apply below_drew1 | refine below_set ?_ GE132.out) | exact HB.out))))
       have n2_:=Aside0.mk (blk_below (g:=gb132) (o := .cells #[.int .i64 a1_0, .string a1_1, .bool a1_2, .int .i64 a1_3] 55 (0,0)) (by (with_reducible repeat (first | refine blk_drewN ?_ _ | refine blk_drew ?_ | refine blk_alloc ?_ _));exact BK132.out) hb)
       have n3_:=Aside0.mk (below_step (by repeat (first | (with_reducible first | exact HB.out | apply below_alloc | apply pw_below_drewN | apply below_drew1 | refine below_set ?_ GE132.out) | exact HB.out)) hb)
       clear HO135
       clear BK132
       clear HB
       have HO135:=n0_
       have HO141:=n1_
       have BK132:=n2_
       have HB:=n3_
       clear n0_ n1_ n2_ n3_
       clear hb ho42
       refine hK.out _ _ ⟨(blk_cell BK132.out 0).trans rfl,(blk_cell BK132.out 1).trans rfl,(blk_cell BK132.out 2).trans rfl,(blk_cell BK132.out 3).trans rfl⟩ (fun hHeld => ?_)
       clear hK K
       refine norm_ (a':=?_) ?_ ?_
       rotate_left
       ·show Act.put _ (some 11) _ = _
        simp only [Act.put,sA_,s0_,s1_,i64_w,i32_w]
        rfl
       refine one_ (i:=2) (N:=some 9) #[true,true,true,true,true,false,false] rfl rfl (by kernel_rfl) (by decide) (fun K hK => ?_)
       refine Kd.R_append_rows_step k55 (w0:=w) w.heap.size (by rfl) (.tmp 7) (.tmp 8) 27 55 (.agg #[(.int .i64 0),(.string ⟨#[]⟩),(.bool false),(.int .i64 0)]) 40 rfl Try.underlying27 info55 rfl (by decide) (by omega) v134 y133 l0 _ _ _ (fun k_ => some k_ ≠ (v140 : Value).ownBlock ∧ k_ ≠ gb132) (fun _ => False) rfl rfl ?aO ?aR (fun _ _ h => h) (fun _ h => h.elim) ?aF ?aB ?aS ?aL ?_
       (case aR => repeat (first | exact (Kd.C_below HR0.out HB.out) | (with_reducible refine Kd.C_alloc ?_ _) | (with_reducible refine Kd.C_drewN ?_ _) | (with_reducible refine Kd.C_drew ?_)))
       (case aB => exact (by repeat (first | (with_reducible first | exact HB.out | apply below_alloc | apply pw_below_drewN | apply below_drew1 | refine below_set ?_ GE132.out) | exact HB.out)))
       (case aF => exact (fun k_ hk => ⟨Kd.fresh' (Kd.R_lt (by (with_reducible repeat (first | apply Kd.R_alloc | apply Kd.R_drewN | apply Kd.R_drew));exact HO141.out)) k_ hk,Kd.freshB (g:=gb132) (o := .cells #[.int .i64 a1_0, .string a1_1, .bool a1_2, .int .i64 a1_3] 55 (0,0)) (by (with_reducible repeat (first | refine blk_drewN ?_ _ | refine blk_drew ?_ | refine blk_alloc ?_ _));exact BK132.out) k_ hk⟩))
       (case aO => exact (by (with_reducible repeat (first | apply Kd.R_alloc | apply Kd.R_drewN | apply Kd.R_drew));exact Kd.R_mono HO135.out (fun _ hk => ⟨hk.2,hk.1.2⟩)))
       (case aS => exact (below_size (by repeat (first | (with_reducible first | exact HB.out | apply below_alloc | apply pw_below_drewN | apply below_drew1 | refine below_set ?_ GE132.out) | exact HB.out))))
       (case aL => have:=LMc3.out;omega)
       intro v137 w43 ho hb hg hat
       rw [← Ny136.out] at ho
       have n0_:=Aside0.mk (blk_grown (g:=gb132) (o := .cells #[.int .i64 a1_0, .string a1_1, .bool a1_2, .int .i64 a1_3] 55 (0,0)) (by (with_reducible repeat (first | refine blk_drewN ?_ _ | refine blk_drew ?_ | refine blk_alloc ?_ _));exact BK132.out) hg (Kd.R_away HO135.out (fun _ hk => hk.1.2)))
       have n1_:=Aside0.mk (Kd.R_after (ok:=(fun k_ => k_ ≠ gb132)) (by (with_reducible repeat (first | apply Kd.R_alloc | apply Kd.R_drewN | apply Kd.R_drew));exact Kd.R_mono HO141.out (fun _ hk => ⟨hk.2,hk.1.2⟩)) hg hat)
       have n2_:=Aside0.mk (hb)
       have n3_:=Aside0.mk (ho)
       clear BK132
       clear HO141
       clear HB
       clear HO135
       have BK132:=n0_
       have HO141:=n1_
       have HB:=n2_
       have HO138:=n3_
       clear n0_ n1_ n2_ n3_
       clear ho hb hg hat
       refine hK.out _ _ ⟨(blk_cell BK132.out 0).trans rfl,(blk_cell BK132.out 1).trans rfl,(blk_cell BK132.out 2).trans rfl,(blk_cell BK132.out 3).trans rfl⟩ (fun hHeld => ?_)
       clear hK K
       refine norm_ (a':=?_) ?_ ?_
       rotate_left
       ·show Act.put _ (some 9) _ = _
        simp only [Act.put,sA_,s0_,s1_,i64_w,i32_w]
        rfl
       exact norm_ (by simp only [putAll,Act.put,sA_,s0_,s1_]) (hCont (v134,v137,v140) _ ⟨hHeld,(by (with_reducible repeat (first | apply Kd.R_alloc | apply Kd.R_drewN | apply Kd.R_drew));exact HO138.out),(by (with_reducible repeat (first | apply Kd.R_alloc | apply Kd.R_drewN | apply Kd.R_drew));exact Kd.R_mono HO141.out (fun _ hk => ⟨hk.2,hk.1⟩)),(by (with_reducible repeat (first | refine blk_drewN ?_ _ | refine blk_drew ?_ | refine blk_alloc ?_ _));exact BK132.out),(by repeat (first | (with_reducible first | exact HB.out | apply below_alloc | apply pw_below_drewN | apply below_drew1 | refine below_set ?_ GE132.out) | exact HB.out))⟩)
     ·skip
      refine Kd.R_lit_step k55 _ 55 ?hg (N:=11) ?hd (xs:=([(⟨a1_0,a1_1,a1_2,a1_3⟩ : S55)] : List (S55))) (inner := [.int .i64 a1_0, .string a1_1, .bool a1_2, .int .i64 a1_3]) (ok:=fun _ => True) (okp:=fun _ => True) ?hr ?hp (fun _ hk => hk) trivial (Below.refl _ _) (Nat.le_refl _) (by simp) ?_;(case hd => rfl);(case hg => rfl);(case hr => first | (go_simp;done) | (go_simp;rfl));(case hp => exact (Reps.c4 (show Kd.M k55 _ _ _ (⟨a1_0,a1_1,a1_2,a1_3⟩ : S55) [.int .i64 a1_0, .string a1_1, .bool a1_2, .int .i64 a1_3] from (k55_mkM _ _ _ (⟨a1_0,a1_1,a1_2,a1_3⟩ : S55) )) (Reps.none _ _)))
      intro v140 w39 ho40 hb hg_ hnew_
      clear hg_ hnew_
      (first | rw [← Ny139.out] at ho40 | (simp only [Int.reduceToNat] at ho40;rw [← Ny139.out] at ho40))
      have n0_:=Aside0.mk (Kd.R_lower (Kd.R_newB ho40 (g:=gb132) (o := .cells #[.int .i64 a1_0, .string a1_1, .bool a1_2, .int .i64 a1_3] 55 (0,0)) (by (with_reducible repeat (first | refine blk_drewN ?_ _ | refine blk_drew ?_ | refine blk_alloc ?_ _));exact BK132.out)) (below_size (by repeat (first | (with_reducible first | exact HB.out | apply below_alloc | apply pw_below_drewN | apply below_drew1 | refine below_set ?_ GE132.out) | exact HB.out))))
      have n1_:=Aside0.mk (blk_below (g:=gb132) (o := .cells #[.int .i64 a1_0, .string a1_1, .bool a1_2, .int .i64 a1_3] 55 (0,0)) (by (with_reducible repeat (first | refine blk_drewN ?_ _ | refine blk_drew ?_ | refine blk_alloc ?_ _));exact BK132.out) hb)
      have n2_:=Aside0.mk (below_step (by repeat (first | (with_reducible first | exact HB.out | apply below_alloc | apply pw_below_drewN | apply below_drew1 | refine below_set ?_ GE132.out) | exact HB.out)) hb)
      clear BK132
      clear HB
      have HO141:=n0_
      have BK132:=n1_
      have HB:=n2_
      clear n0_ n1_ n2_
      clear hb ho40
      refine hK.out _ _ ⟨(blk_cell BK132.out 0).trans rfl,(blk_cell BK132.out 1).trans rfl,(blk_cell BK132.out 2).trans rfl,(blk_cell BK132.out 3).trans rfl⟩ (fun hHeld => ?_)
      clear hK K
      refine norm_ (a':=?_) ?_ ?_
      rotate_left
      ·show Act.put _ (some 11) _ = _
       simp only [Act.put,sA_,s0_,s1_,i64_w,i32_w]
       rfl
      refine one_ (i:=0) (N:=some 7) #[true,true,false,true,true,false,false] rfl rfl (by kernel_rfl) (by decide) (fun K hK => ?_)
      refine Kd.R_lit_step k55 _ 55 ?hg (N:=7) ?hd (xs:=([] : List (S55))) (inner := []) (ok:=fun _ => True) (okp:=fun _ => True) ?hr ?hp (fun _ hk => hk) trivial (Below.refl _ _) (Nat.le_refl _) (by simp) ?_;(case hd => rfl);(case hg => rfl);(case hr => first | (go_simp;done) | (go_simp;rfl));(case hp => exact (Reps.none _ _))
      intro v134 w41 ho42 hb hg_ hnew_
      clear hg_ hnew_
      (first | rw [← Ny133.out] at ho42 | (simp only [Int.reduceToNat] at ho42;rw [← Ny133.out] at ho42))
      have n0_:=Aside0.mk (Kd.R_elder' (by (with_reducible repeat (first | apply Kd.R_alloc | apply Kd.R_drewN | apply Kd.R_drew));exact HO141.out) (Kd.R_base ho42) hb)
      have n1_:=Aside0.mk (Kd.R_lower (Kd.R_newB (Kd.R_new' ho42 (Kd.R_lt (by (with_reducible repeat (first | apply Kd.R_alloc | apply Kd.R_drewN | apply Kd.R_drew));exact HO141.out))) (g:=gb132) (o := .cells #[.int .i64 a1_0, .string a1_1, .bool a1_2, .int .i64 a1_3] 55 (0,0)) (by (with_reducible repeat (first | refine blk_drewN ?_ _ | refine blk_drew ?_ | refine blk_alloc ?_ _));exact BK132.out)) (below_size (by repeat (first | (with_reducible first | exact HB.out | apply below_alloc | apply pw_below_drewN | apply below_drew1 | refine below_set ?_ GE132.out) | exact HB.out))))
      have n2_:=Aside0.mk (blk_below (g:=gb132) (o := .cells #[.int .i64 a1_0, .string a1_1, .bool a1_2, .int .i64 a1_3] 55 (0,0)) (by (with_reducible repeat (first | refine blk_drewN ?_ _ | refine blk_drew ?_ | refine blk_alloc ?_ _));exact BK132.out) hb)
      have n3_:=Aside0.mk (below_step (by repeat (first | (with_reducible first | exact HB.out | apply below_alloc | apply pw_below_drewN | apply below_drew1 | refine below_set ?_ GE132.out) | exact HB.out)) hb)
      clear HO141
      clear BK132
      clear HB
      have HO141:=n0_
      have HO135:=n1_
      have BK132:=n2_
      have HB:=n3_
      clear n0_ n1_ n2_ n3_
      clear hb ho42
      refine hK.out _ _ ⟨(blk_cell BK132.out 0).trans rfl,(blk_cell BK132.out 1).trans rfl,(blk_cell BK132.out 2).trans rfl,(blk_cell BK132.out 3).trans rfl⟩ (fun hHeld => ?_)
      clear hK K
      refine norm_ (a':=?_) ?_ ?_
      rotate_left
      ·show Act.put _ (some 7) _ = _
       simp only [Act.put,sA_,s0_,s1_,i64_w,i32_w]
       rfl
      refine one_ (i:=2) (N:=some 9) #[true,true,true,true,true,false,false] rfl rfl (by kernel_rfl) (by decide) (fun K hK => ?_)
      refine Kd.R_append_rows_step k55 (w0:=w) w.heap.size (by rfl) (.tmp 7) (.tmp 8) 27 55 (.agg #[(.int .i64 0),(.string ⟨#[]⟩),(.bool false),(.int .i64 0)]) 40 rfl Try.underlying27 info55 rfl (by decide) (by omega) v134 y133 l0 _ _ _ (fun k_ => some k_ ≠ (v140 : Value).ownBlock ∧ k_ ≠ gb132) (fun _ => False) rfl rfl ?aO ?aR (fun _ _ h => h) (fun _ h => h.elim) ?aF ?aB ?aS ?aL ?_
      (case aR => repeat (first | exact (Kd.C_below HR0.out HB.out) | (with_reducible refine Kd.C_alloc ?_ _) | (with_reducible refine Kd.C_drewN ?_ _) | (with_reducible refine Kd.C_drew ?_)))
      (case aB => exact (by repeat (first | (with_reducible first | exact HB.out | apply below_alloc | apply pw_below_drewN | apply below_drew1 | refine below_set ?_ GE132.out) | exact HB.out)))
      (case aF => exact (fun k_ hk => ⟨Kd.fresh' (Kd.R_lt (by (with_reducible repeat (first | apply Kd.R_alloc | apply Kd.R_drewN | apply Kd.R_drew));exact HO141.out)) k_ hk,Kd.freshB (g:=gb132) (o := .cells #[.int .i64 a1_0, .string a1_1, .bool a1_2, .int .i64 a1_3] 55 (0,0)) (by (with_reducible repeat (first | refine blk_drewN ?_ _ | refine blk_drew ?_ | refine blk_alloc ?_ _));exact BK132.out) k_ hk⟩))
      (case aO => exact (by (with_reducible repeat (first | apply Kd.R_alloc | apply Kd.R_drewN | apply Kd.R_drew));exact Kd.R_mono HO135.out (fun _ hk => ⟨hk.1.2,hk.2⟩)))
      (case aS => exact (below_size (by repeat (first | (with_reducible first | exact HB.out | apply below_alloc | apply pw_below_drewN | apply below_drew1 | refine below_set ?_ GE132.out) | exact HB.out))))
      (case aL => have:=LMc3.out;omega)
      intro v137 w43 ho hb hg hat
      rw [← Ny136.out] at ho
      have n0_:=Aside0.mk (blk_grown (g:=gb132) (o := .cells #[.int .i64 a1_0, .string a1_1, .bool a1_2, .int .i64 a1_3] 55 (0,0)) (by (with_reducible repeat (first | refine blk_drewN ?_ _ | refine blk_drew ?_ | refine blk_alloc ?_ _));exact BK132.out) hg (Kd.R_away HO135.out (fun _ hk => hk.2)))
      have n1_:=Aside0.mk (Kd.R_after (ok:=(fun k_ => k_ ≠ gb132)) (by (with_reducible repeat (first | apply Kd.R_alloc | apply Kd.R_drewN | apply Kd.R_drew));exact Kd.R_mono HO141.out (fun _ hk => ⟨hk.1.2,hk.2⟩)) hg hat)
      have n2_:=Aside0.mk (hb)
      have n3_:=Aside0.mk (ho)
      clear BK132
      clear HO141
      clear HB
      clear HO135
      have BK132:=n0_
      have HO141:=n1_
      have HB:=n2_
      have HO138:=n3_
      clear n0_ n1_ n2_ n3_
      clear ho hb hg hat
      refine hK.out _ _ ⟨(blk_cell BK132.out 0).trans rfl,(blk_cell BK132.out 1).trans rfl,(blk_cell BK132.out 2).trans rfl,(blk_cell BK132.out 3).trans rfl⟩ (fun hHeld => ?_)
      clear hK K
      refine norm_ (a':=?_) ?_ ?_
      rotate_left
      ·show Act.put _ (some 9) _ = _
       simp only [Act.put,sA_,s0_,s1_,i64_w,i32_w]
       rfl
      exact norm_ (by simp only [putAll,Act.put,sA_,s0_,s1_]) (hCont (v134,v137,v140) _ ⟨hHeld,(by (with_reducible repeat (first | apply Kd.R_alloc | apply Kd.R_drewN | apply Kd.R_drew));exact HO138.out),(by (with_reducible repeat (first | apply Kd.R_alloc | apply Kd.R_drewN | apply Kd.R_drew));exact Kd.R_mono HO141.out (fun _ hk => ⟨hk.2,hk.1⟩)),(by (with_reducible repeat (first | refine blk_drewN ?_ _ | refine blk_drew ?_ | refine blk_alloc ?_ _));exact BK132.out),(by repeat (first | (with_reducible first | exact HB.out | apply below_alloc | apply pw_below_drewN | apply below_drew1 | refine below_set ?_ GE132.out) | exact HB.out))⟩)
    rintro ⟨v134,v137,v140⟩ w44 ⟨hS_,h0_,h1_,h2_,h3_⟩
    have n0_ : Aside0 (Kd.R k55 55 w44 w.heap.size (fun k_ => some k_ ≠ (v140 : Value).ownBlock ∧ k_ ≠ gb132) v137 y136):=⟨h0_⟩
    have n1_ : Aside0 (Kd.R k55 55 w44 w.heap.size (fun k_ => some k_ ≠ (v137 : Value).ownBlock ∧ k_ ≠ gb132) v140 y139):=⟨h1_⟩
    have n2_ : Aside0 (w44.heap[gb132]? = some (.cells #[.int .i64 a1_0, .string a1_1, .bool a1_2, .int .i64 a1_3] 55 (0,0))):=⟨h2_⟩
    have n3_ : Aside0 (Below w.heap.size w w44):=⟨h3_⟩
    clear BK132
    clear HB
    clear h0_ h1_ h2_ h3_
    have HO138:=n0_
    have HO141:=n1_
    have BK132:=n2_
    have HB:=n3_
    clear n0_ n1_ n2_ n3_
    have hHeld : w44.cell? ⟨gb132,0,none⟩ = some (.int .i64 a1_0) ∧ w44.cell? ⟨gb132,1,none⟩ = some (.string a1_1) ∧ w44.cell? ⟨gb132,2,none⟩ = some (.bool a1_2) ∧ w44.cell? ⟨gb132,3,none⟩ = some (.int .i64 a1_3):=hS_
    obtain ⟨Ao46,co46,eo46⟩ := Kd.R_slice HO141.out
    (first | subst eo46 | (injection eo46 with f1_ f2_ f3_;have f4_:=f1_.symm;have f5_:=f3_.symm;clear f1_ f2_ f3_;subst f4_;subst f5_))
    refine norm_ (a':=?_) ?_ ?_
    rotate_left
    ·simp only [putAll,Act.put,sA_,s0_,s1_]
     rfl
    refine one_ (i:=5) (N:=some 12) #[true,true,true,true,true,true,false] rfl rfl (by kernel_rfl) (by decide) (fun K hK => ?_)
    refine Kd.R_append_rows_step k55 (w0:=w) w.heap.size (by rfl) (.tmp 9) (.tmp 11) 27 55 (.agg #[(.int .i64 0),(.string ⟨#[]⟩),(.bool false),(.int .i64 0)]) 40 rfl Try.underlying27 info55 rfl (by decide) (by omega) v137 y136 y139 _ _ _ (fun k_ => some k_ ≠ (.slice Ao46 y139.length co46 : Value).ownBlock ∧ k_ ≠ gb132) (fun _ => False) rfl rfl ?aO ?aR (fun _ _ h => h) (fun _ h => h.elim) ?aF ?aB ?aS ?aL ?_
    (case aR => repeat (first | exact (Kd.R_reads' HO141.out).2.2 | (with_reducible refine Kd.C_alloc ?_ _) | (with_reducible refine Kd.C_drewN ?_ _) | (with_reducible refine Kd.C_drew ?_)))
    (case aB => exact (by repeat (first | (with_reducible first | exact HB.out | apply below_alloc | apply pw_below_drewN | apply below_drew1 | refine below_set ?_ GE132.out) | exact HB.out)))
    (case aF => exact (fun k_ hk => ⟨Kd.fresh' (Kd.R_lt (by (with_reducible repeat (first | apply Kd.R_alloc | apply Kd.R_drewN | apply Kd.R_drew));exact HO141.out)) k_ hk,Kd.freshB (g:=gb132) (o := .cells #[.int .i64 a1_0, .string a1_1, .bool a1_2, .int .i64 a1_3] 55 (0,0)) (by (with_reducible repeat (first | refine blk_drewN ?_ _ | refine blk_drew ?_ | refine blk_alloc ?_ _));exact BK132.out) k_ hk⟩))
    (case aO => exact (by (with_reducible repeat (first | apply Kd.R_alloc | apply Kd.R_drewN | apply Kd.R_drew));exact HO138.out))
    (case aS => exact (below_size (by repeat (first | (with_reducible first | exact HB.out | apply below_alloc | apply pw_below_drewN | apply below_drew1 | refine below_set ?_ GE132.out) | exact HB.out))))
    (case aL => have:=LMc4.out;omega)
    intro v143 w45 ho hb hg hat
    rw [← Ny142.out] at ho
    have n0_:=Aside0.mk (blk_grown (g:=gb132) (o := .cells #[.int .i64 a1_0, .string a1_1, .bool a1_2, .int .i64 a1_3] 55 (0,0)) (by (with_reducible repeat (first | refine blk_drewN ?_ _ | refine blk_drew ?_ | refine blk_alloc ?_ _));exact BK132.out) hg (Kd.R_away HO138.out (fun _ hk => hk.2)))
    have n1_:=Aside0.mk (Kd.R_after (ok:=(fun k_ => k_ ≠ gb132)) (by (with_reducible repeat (first | apply Kd.R_alloc | apply Kd.R_drewN | apply Kd.R_drew));exact Kd.R_mono HO141.out (fun _ hk => ⟨hk.2,hk.1⟩)) hg hat)
    have n2_:=Aside0.mk (hb)
    have n3_:=Aside0.mk (ho)
    clear BK132
    clear HO141
    clear HB
    clear HO138
    have BK132:=n0_
    have HO141:=n1_
    have HB:=n2_
    have HO144:=n3_
    clear n0_ n1_ n2_ n3_
    clear ho hb hg hat
    refine hK.out _ _ ⟨(blk_cell BK132.out 0).trans rfl,(blk_cell BK132.out 1).trans rfl,(blk_cell BK132.out 2).trans rfl,(blk_cell BK132.out 3).trans rfl⟩ (fun hHeld => ?_)
    clear hK K
    refine norm_ (a':=?_) ?_ ?_
    rotate_left
    ·show Act.put _ (some 12) _ = _
     simp only [Act.put,sA_,s0_,s1_,i64_w,i32_w]
     rfl
    refine pure_ (i:=6) (N:=some 6) (v:=?_) (a':=?_) #[true,true,true,true,true,true,true] rfl rfl (by kernel_rfl) (fun _ _ _ h => h) (Or.inl ⟨by rfl, ?_⟩) ?_ ?_
    rotate_left
    ·intro w'
     go_simp
     with_reducible rfl
    rotate_left
    ·simp only [Act.put,sA_,s0_,s1_,i64_w,i32_w]
     rfl
    refine done_ (by kernel_rfl) ?_
    try go_wp2_with (first | ((with_reducible refine gate_callee (f:=59) rfl ?_);refine goesL_ (some 14) rfl rfl Try.func59 (by kernel_rfl) rfl #[.slice A0 l0.length c0] rfl (by (try simp only [List.map_toArray,List.map_cons,List.map_nil]);first | done | rfl | (simp only [List.length_drop,List.length_take];rfl)) ?_;(with_reducible refine (spec_l20Good.calls k _ _ l0 false _ ?side1 ?side2 A5.out).mono ?_);(case side1 => repeat (first | exact (Kd.C_below HR0.out HB.out) | (with_reducible refine Kd.C_alloc ?_ _) | (with_reducible refine Kd.C_drewN ?_ _) | (with_reducible refine Kd.C_drew ?_)));(case side2 => exact HC0.out);rintro e w47 ⟨rfl,hb⟩;refine ⟨_,rfl, ?_⟩;have n0_:=Aside0.mk (Kd.R_below (by (with_reducible repeat (first | apply Kd.R_alloc | apply Kd.R_drewN | apply Kd.R_drew));exact HO141.out) hb);have n1_:=Aside0.mk (Kd.R_below (by (with_reducible repeat (first | apply Kd.R_alloc | apply Kd.R_drewN | apply Kd.R_drew));exact HO144.out) hb);have n2_:=Aside0.mk (blk_below (g:=gb132) (o := .cells #[.int .i64 a1_0, .string a1_1, .bool a1_2, .int .i64 a1_3] 55 (0,0)) (by (with_reducible repeat (first | refine blk_drewN ?_ _ | refine blk_drew ?_ | refine blk_alloc ?_ _));exact BK132.out) hb);have n3_:=Aside0.mk (below_step (by repeat (first | (with_reducible first | exact HB.out | apply below_alloc | apply pw_below_drewN | apply below_drew1 | refine below_set ?_ GE132.out) | exact HB.out)) hb);clear HO141;clear HO144;clear BK132;clear HB;have HO141:=n0_;have HO144:=n1_;have BK132:=n2_;have HB:=n3_;clear n0_ n1_ n2_ n3_;(try clear hb);(try clear hb2);(try clear hk);(try clear hi)) | ((with_reducible refine gate_dst (N:=21) rfl ?_);refine Kd.R_lit k55 _ 55 ?hg (N:=21) ?hd (xs:=([] : List (S55))) (inner := []) (ok:=fun _ => True) (okp:=fun _ => True) ?hr ?hp (fun _ hk => hk) trivial (Below.refl _ _) (Nat.le_refl _) (by simp) ?_;(case hd => rfl);(case hg => rfl);(case hr => first | (go_simp;done) | (go_simp;rfl));(case hp => exact (Reps.none _ _));intro v151 w48 ho49 hb hg_ hnew_;clear hg_ hnew_;(first | rw [← Ny150.out] at ho49 | (simp only [Int.reduceToNat] at ho49;rw [← Ny150.out] at ho49));have n0_:=Aside0.mk (Kd.R_elder' (by (with_reducible repeat (first | apply Kd.R_alloc | apply Kd.R_drewN | apply Kd.R_drew));exact HO141.out) (Kd.R_base ho49) hb);have n1_:=Aside0.mk (Kd.R_elder' (by (with_reducible repeat (first | apply Kd.R_alloc | apply Kd.R_drewN | apply Kd.R_drew));exact HO144.out) (Kd.R_base ho49) hb);have n2_:=Aside0.mk (Kd.R_lower (Kd.R_newB (Kd.R_new' (Kd.R_new' ho49 (Kd.R_lt (by (with_reducible repeat (first | apply Kd.R_alloc | apply Kd.R_drewN | apply Kd.R_drew));exact HO141.out))) (Kd.R_lt (by (with_reducible repeat (first | apply Kd.R_alloc | apply Kd.R_drewN | apply Kd.R_drew));exact HO144.out))) (g:=gb132) (o := .cells #[.int .i64 a1_0, .string a1_1, .bool a1_2, .int .i64 a1_3] 55 (0,0)) (by (with_reducible repeat (first | refine blk_drewN ?_ _ | refine blk_drew ?_ | refine blk_alloc ?_ _));exact BK132.out)) (below_size (by repeat (first | (with_reducible first | exact HB.out | apply below_alloc | apply pw_below_drewN | apply below_drew1 | refine below_set ?_ GE132.out) | exact HB.out))));have n3_:=Aside0.mk (blk_below (g:=gb132) (o := .cells #[.int .i64 a1_0, .string a1_1, .bool a1_2, .int .i64 a1_3] 55 (0,0)) (by (with_reducible repeat (first | refine blk_drewN ?_ _ | refine blk_drew ?_ | refine blk_alloc ?_ _));exact BK132.out) hb);have n4_:=Aside0.mk (below_step (by repeat (first | (with_reducible first | exact HB.out | apply below_alloc | apply pw_below_drewN | apply below_drew1 | refine below_set ?_ GE132.out) | exact HB.out)) hb);clear HO141;clear HO144;clear BK132;clear HB;have HO141:=n0_;have HO144:=n1_;have HO152:=n2_;have BK132:=n3_;have HB:=n4_;clear n0_ n1_ n2_ n3_ n4_;clear hb ho49))
    go_ret2
    exact ⟨_,by first | rfl | (simp [errW_none,errW_some] <;> rfl) | (simp [*,errW_none,errW_some] <;> rfl),by (with_reducible repeat (first | apply Kd.R_alloc | apply Kd.R_drewN | apply Kd.R_drew));exact Kd.R_mono HO152.out (fun _ hk => trivial),by repeat (first | (with_reducible first | exact HB.out | apply below_alloc | apply pw_below_drewN | apply below_drew1 | refine below_set ?_ GE132.out) | exact HB.out)⟩
  ·rw [if_neg c4] at H
   exact absurd H (by simp)
 ·rw [if_neg c3] at H
  exact absurd H (by simp)

end Go.Proofs.Ytglidkabkkifnaa.PFnExactAddEntry
