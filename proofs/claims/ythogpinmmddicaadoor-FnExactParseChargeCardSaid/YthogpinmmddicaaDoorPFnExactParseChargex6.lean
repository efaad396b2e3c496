-- Written by a program of this session, over the kit's print (wip/xprint.py)
import Derived.Test.YthogpinmmddicaaDoorPFnExactParseChargex0
import Derived.Test.YthogpinmmddicaaDoorPFnExactParseChargex5
namespace Go.Proofs.YthogpinmmddicaaDoor.PFnExactParseCharge
open Go.RowKit Go.Proofs.YthogpinmmddicaaDoorW.PrintWords Go.Proofs.YthogpinmmddicaaDoorW.PrintLast Go.Proofs.YthogpinmmddicaaDoorW.PrintMore
attribute [local go_sem] max2_int min2_int max_two min_two max_three min_three max_four min_four   -- for this text's walks alone
set_option linter.unusedVariables false
set_option linter.unusedSimpArgs false

/-! ### laws_eqRateStepS: function 19 -/
def laws_eqRateStepS.l0 : Nat → List (S35) → List (S35) → Int → Option (Bool)
 | 0,_,_,_ => none
 | k + 1,x0,x1,x5 => if x5 < (x0.length : Int) then (if 0 ≤ x5 then (if x5 < (x1.length : Int) then ((laws_eqRateStep.f ((rd_T35 x0 x5).f0) ((rd_T35 x0 x5).f1) ((rd_T35 x1 x5).f0) ((rd_T35 x1 x5).f1)).bind fun t223 => (if t223 = true then (laws_eqRateStepS.l0 k x0 x1 (wrap64 (x5 + 1))) else (some false))) else (none)) else (none)) else (some true)
def laws_eqRateStepS.f (k : Nat) (l0 : List (S35)) (l1 : List (S35)) : Option (Bool):=if (l0.length : Int) = (l1.length : Int) then (laws_eqRateStepS.l0 k l0 l1 0) else (some false)
theorem laws_eqRateStepS.mono_l : ∀ k,(∀ y0 y1 y2,LeO (laws_eqRateStepS.l0 k y0 y1 y2) (laws_eqRateStepS.l0 (k + 1) y0 y1 y2))
 | 0 => fun _ _ _ r h => by simp [laws_eqRateStepS.l0] at h
 | k + 1 => by
  have ih0:=laws_eqRateStepS.mono_l k
  ·intro y0 y1 y2
   unfold laws_eqRateStepS.l0
   repeat' first
   | (with_reducible exact ih0 _ _ _)
   | (with_reducible exact LeO.refl _)
   | (with_reducible exact LeO.none _)
   | (with_reducible refine LeO.ite ?_ ?_)
   | (with_reducible refine LeO.bind ?_ (fun _ => ?_))
   | exact ih0 _ _ _
   | exact LeO.none _
   | refine LeO.ite ?_ ?_
   | refine LeO.bind ?_ (fun _ => ?_)
theorem laws_eqRateStepS.mono : ∀ a0 a1 k,LeO (laws_eqRateStepS.f k a0 a1) (laws_eqRateStepS.f (k + 1) a0 a1):=by
 intro a0 a1 k
 have ih0:=laws_eqRateStepS.mono_l k
 unfold laws_eqRateStepS.f
 repeat' first
   | (with_reducible exact ih0 _ _ _)
   | (with_reducible exact LeO.refl _)
   | (with_reducible exact LeO.none _)
   | (with_reducible refine LeO.ite ?_ ?_)
   | (with_reducible refine LeO.bind ?_ (fun _ => ?_))
   | exact ih0 _ _ _
   | exact LeO.none _
   | refine LeO.ite ?_ ?_
   | refine LeO.bind ?_ (fun _ => ?_)
def laws_eqRateStepS.T6 : Bool × List (List Nat × List Nat):=(true,[([],[]),([],[]),([0,1],[0,1]),([2],[2]),([],[]),([],[]),([4,5],[4,5]),([6],[6]),([3,7],[3,7]),([8],[8])])
def laws_eqRateStepS.B6 : List Nat := [0,0,3,7,0,0,48,112,255,511]
theorem laws_eqRateStepS.tab6 : rtab .any (opsOf Tryd.f19 6) = laws_eqRateStepS.T6:=by kernel_rfl
theorem laws_eqRateStepS.bits6 : waitsOk laws_eqRateStepS.T6.2 laws_eqRateStepS.B6 = true:=by kernel_rfl
set_option maxHeartbeats 8000000 in
set_option maxRecDepth 100000 in
theorem laws_eqRateStepS.calls (k : Nat) (A0 : Option Addr) (c0 : Nat) (l0 : List (S35)) (A1 : Option Addr) (c1 : Nat) (l1 : List (S35)) (r : Bool) (w : World) (hr0 : Kd.C k35 w A0 l0.length l0) (hc0 : l0.length ≤ c0) (hr1 : Kd.C k35 w A1 l1.length l1) (hc1 : l1.length ≤ c1) (h : laws_eqRateStepS.f k l0 l1 = some r) :
  Calls Tryd.prog 19 #[.slice A0 l0.length c0, .slice A1 l1.length c1] w fun e w' => e = .returned (.bool r) ∧ Below w.heap.size w w':=by
 have hu35:=Tryd.underlying35
 have HR0:=Aside0.mk hr0
 have HC0:=Aside0.mk hc0
 clear hr0 hc0
 have HR1:=Aside0.mk hr1
 have HC1:=Aside0.mk hc1
 clear hr1 hc1
 have HB:=Aside0.mk (Below.refl w.heap.size w)
 have H : (if (l0.length : Int) = (l1.length : Int) then (laws_eqRateStepS.l0 k l0 l1 0) else (some false)) = some r:=h
 clear h
 by_cases c3 : (l0.length : Int) = (l1.length : Int)
 ·rw [if_pos c3] at H
  have c3b0 : ((l0.length : Int) == (l1.length : Int)) = true:=beq_iff_eq.mpr c3
  have c3b1 : ((l0.length : Int) != (l1.length : Int)) = false:=bne_eq_false_iff_eq.mpr c3
  have c3b2 : (l0.length == l1.length) = true:=by (simp at c3 ⊢;omega)
  clear c3
  have H':=Aside0.mk H
  clear H
  go_enter Tryd.func19,Tryd.ntmps19
  go_wp2
  (skip)
  go_loopg [5] k (fun kq v5 w' => ∃ (x5_1 : Int),v5 = .int .i64 x5_1 ∧ Aside0 (laws_eqRateStepS.l0 kq l0 l1 x5_1 = some r) ∧ Aside0 (kq ≤ k) ∧ Aside0 (Below w.heap.size w w'))
  case atStart => exact ⟨(0),(by rfl),H',⟨Nat.le_refl _⟩,⟨by exact HB.out⟩⟩
  case round =>
   clear H'
   try clear c1
   try clear p2
   try clear c3
   try clear c3b0
   try clear c3b1
   try clear c3b2
   obtain ⟨x5_1,rfl,HA,HK1,HB⟩ := hrel
   cases gk with
   | zero => exact absurd HA.out (by simp [laws_eqRateStepS.l0])
   | succ k1 =>
    have H:=HA.out
    clear HA
    simp only [laws_eqRateStepS.l0] at H
    by_cases c4 : x5_1 < (l0.length : Int)
    ·rw [if_pos c4] at H
     have c4b0 : decide (x5_1 < (l0.length : Int)) = true:=decide_eq_true c4
     clear c4
     by_cases c5 : 0 ≤ x5_1
     ·rw [if_pos c5] at H
      have c5b0 : decide (0 ≤ x5_1) = true:=decide_eq_true c5
      clear c5
      by_cases c6 : x5_1 < (l1.length : Int)
      ·rw [if_pos c6] at H
       have c6b0 : decide (x5_1 < (l1.length : Int)) = true:=decide_eq_true c6
       clear c6
       replace H:=Option.bind_eq_some_iff.mp H
       obtain ⟨t223,A70,H⟩ := H
       replace H : (if t223 = true then (laws_eqRateStepS.l0 k1 l0 l1 (wrap64 (x5_1 + 1))) else (some false)) = some r:=H
       have A7:=Aside0.mk A70
       clear A70
       by_cases c8 : t223 = true
       ·subst c8
        have H1 : (laws_eqRateStepS.l0 k1 l0 l1 (wrap64 (x5_1 + 1))) = some r:=by rw [if_pos rfl] at H;exact H
        clear H
        have H:=H1
        clear H1
        have H':=Aside0.mk H
        clear H
        try go_wp2
        have n0_:=Aside0.mk (below_drew1 HB.out)
        clear HB
        have HB:=n0_
        clear n0_
        have p221 : 0 ≤ (x5_1 : Int):=of_decide_eq_true (by (with_reducible assumption))
        have q221 : x5_1 < (l0.length : Int):=of_decide_eq_true (by (with_reducible assumption))
        obtain ⟨ad221,e221,hx221_0,hx221_1⟩ := at_T35 HR0.out x5_1 p221 q221
        have hw221_1:=hx221_1
        have hw221_0:=hx221_0
        cases e221
        replace hx221_0:=(HB.out.cell (World.block_lt_of_cell? w _ hx221_0)).trans hx221_0
        replace hx221_1:=(HB.out.cell (World.block_lt_of_cell? w _ hx221_1)).trans hx221_1
        replace p221:=eq_true p221
        replace q221:=eq_true q221
        have p222 : 0 ≤ (x5_1 : Int):=of_decide_eq_true (by (with_reducible assumption))
        have q222 : x5_1 < (l1.length : Int):=of_decide_eq_true (by (with_reducible assumption))
        obtain ⟨ad222,e222,hx222_0,hx222_1⟩ := at_T35 HR1.out x5_1 p222 q222
        have hw222_1:=hx222_1
        have hw222_0:=hx222_0
        cases e222
        replace hx222_0:=(HB.out.cell (World.block_lt_of_cell? w _ hx222_0)).trans hx222_0
        replace hx222_1:=(HB.out.cell (World.block_lt_of_cell? w _ hx222_1)).trans hx222_1
        replace p222:=eq_true p222
        replace q222:=eq_true q222
        refine start_ (n:=10) (S:=fun w' => w'.cell? (ad221.add ((x5_1).toNat * 2)) = some (.int .i64 ((rd_T35 l0 x5_1).f0)) ∧ w'.cell? ⟨(ad221.add ((x5_1).toNat * 2)).block,(ad221.add ((x5_1).toNat * 2)).off + 1,none⟩ = some (.int .i64 ((rd_T35 l0 x5_1).f1)) ∧ w'.cell? (ad222.add ((x5_1).toNat * 2)) = some (.int .i64 ((rd_T35 l1 x5_1).f0)) ∧ w'.cell? ⟨(ad222.add ((x5_1).toNat * 2)).block,(ad222.add ((x5_1).toNat * 2)).off + 1,none⟩ = some (.int .i64 ((rd_T35 l1 x5_1).f1))) (ds := []) #[false,false,false,false,false,false,false,false,false,false] (by kernel_rfl) rfl rfl ⟨((HB.out.cell (World.block_lt_of_cell? w _ hw221_0)).trans hw221_0),((HB.out.cell (World.block_lt_of_cell? w _ hw221_1)).trans hw221_1),((HB.out.cell (World.block_lt_of_cell? w _ hw222_0)).trans hw222_0),((HB.out.cell (World.block_lt_of_cell? w _ hw222_1)).trans hw222_1)⟩ (fun hHeld => ?_);refine with_tabW laws_eqRateStepS.tab6 laws_eqRateStepS.bits6 (fun HT_ HW_ => ?_)
        generalize wr.drew = w9 at HB hx221_0 hx221_1 hx222_0 hx222_1 hHeld ⊢
        refine pure_ (i:=0) (N:=some 17) (v:=?_) (a':=?_) #[true,false,false,false,false,false,false,false,false,false] rfl rfl (any_of HT_.out (by kernel_rfl)) (fun _ _ _ h => h) (Or.inl ⟨by rfl, ?_⟩) ?_ ?_
        rotate_left
        ·intro w'
         go_simp
         with_reducible rfl
        rotate_left
        ·simp only [Act.put,sA_,s0_,s1_,i64_w,i32_w]
         rfl
        refine pure_ (i:=1) (N:=some 18) (v:=?_) (a':=?_) #[true,true,false,false,false,false,false,false,false,false] rfl rfl (any_of HT_.out (by kernel_rfl)) (fun _ _ _ h => h) (Or.inl ⟨by rfl, ?_⟩) ?_ ?_
        rotate_left
        ·intro w'
         go_simp
         with_reducible rfl
        rotate_left
        ·simp only [Act.put,sA_,s0_,s1_,i64_w,i32_w]
         rfl
        refine pure_ (i:=2) (N:=some 19) (v:=?_) (a':=?_) #[true,true,true,false,false,false,false,false,false,false] rfl rfl (any_of HT_.out (by kernel_rfl)) (fun _ _ _ h => h) (Or.inl ⟨by rfl, ?_⟩) ?_ ?_
        rotate_left
        ·intro w'
         go_simp
         with_reducible rfl
        rotate_left
        ·simp only [Act.put,sA_,s0_,s1_,i64_w,i32_w]
         rfl
        refine pure_ (i:=4) (N:=some 21) (v:=?_) (a':=?_) #[true,true,true,false,true,false,false,false,false,false] rfl rfl (any_of HT_.out (by kernel_rfl)) (fun _ _ _ h => h) (Or.inl ⟨by rfl, ?_⟩) ?_ ?_
        rotate_left
        ·intro w'
         go_simp
         with_reducible rfl
        rotate_left
        ·simp only [Act.put,sA_,s0_,s1_,i64_w,i32_w]
         rfl
        refine pure_ (i:=5) (N:=some 22) (v:=?_) (a':=?_) #[true,true,true,false,true,true,false,false,false,false] rfl rfl (any_of HT_.out (by kernel_rfl)) (fun _ _ _ h => h) (Or.inl ⟨by rfl, ?_⟩) ?_ ?_
        rotate_left
        ·intro w'
         go_simp
         with_reducible rfl
        rotate_left
        ·simp only [Act.put,sA_,s0_,s1_,i64_w,i32_w]
         rfl
        refine pure_ (i:=6) (N:=some 23) (v:=?_) (a':=?_) #[true,true,true,false,true,true,true,false,false,false] rfl rfl (any_of HT_.out (by kernel_rfl)) (fun _ _ _ h => h) (Or.inl ⟨by rfl, ?_⟩) ?_ ?_
        rotate_left
        ·intro w'
         go_simp
         with_reducible rfl
        rotate_left
        ·simp only [Act.put,sA_,s0_,s1_,i64_w,i32_w]
         rfl
        refine take_ (i:=3) (N:=some 20) (v:=?_) (a':=?_) #[true,true,true,true,true,true,true,false,false,false] rfl rfl (take_ofW HT_.out HW_.out (by kernel_rfl)) (fun _ _ _ h => h) (Or.inl ⟨by rfl, ?_⟩) hHeld ?_ ?_
        rotate_left
        ·rintro w' ⟨s0,s1,s2,s3⟩
         go_simp
         with_reducible rfl
        rotate_left
        ·simp only [Act.put,sA_,s0_,s1_,i64_w,i32_w]
         rfl
        refine take_ (i:=7) (N:=some 24) (v:=?_) (a':=?_) #[true,true,true,true,true,true,true,true,false,false] rfl rfl (take_ofW HT_.out HW_.out (by kernel_rfl)) (fun _ _ _ h => h) (Or.inl ⟨by rfl, ?_⟩) hHeld ?_ ?_
        rotate_left
        ·rintro w' ⟨s0,s1,s2,s3⟩
         go_simp
         with_reducible rfl
        rotate_left
        ·simp only [Act.put,sA_,s0_,s1_,i64_w,i32_w]
         rfl
        refine one_ (i:=8) (N:=some 25) #[true,true,true,true,true,true,true,true,true,false] rfl rfl (one_of HT_.out (by kernel_rfl)) (by decide) (fun K hK => ?_)
        refine goes_ Tryd.func35 (by kernel_rfl) rfl #[.agg #[.int .i64 ((rd_T35 l0 x5_1).f0), .int .i64 ((rd_T35 l0 x5_1).f1)], .agg #[.int .i64 ((rd_T35 l1 x5_1).f0), .int .i64 ((rd_T35 l1 x5_1).f1)]] (by rfl) rfl rfl (by (try simp only [List.map_toArray,List.map_cons,List.map_nil]);rfl) ?_
        with_reducible refine (laws_eqRateStep.calls ((rd_T35 l0 x5_1).f0) ((rd_T35 l0 x5_1).f1) ((rd_T35 l1 x5_1).f0) ((rd_T35 l1 x5_1).f1) true _ A7.out).mono ?_
        rintro e w10 ⟨rfl,hb⟩
        refine ⟨_,rfl, ?_⟩
        have n0_:=Aside0.mk (below_step (by exact HB.out) hb)
        clear HB
        have HB:=n0_
        clear n0_
        (try clear hb)
        (skip)
        (skip)
        (skip)
        refine hK.out _ _ ⟨((HB.out.cell (World.block_lt_of_cell? w _ hw221_0)).trans hw221_0),((HB.out.cell (World.block_lt_of_cell? w _ hw221_1)).trans hw221_1),((HB.out.cell (World.block_lt_of_cell? w _ hw222_0)).trans hw222_0),((HB.out.cell (World.block_lt_of_cell? w _ hw222_1)).trans hw222_1)⟩ (fun hHeld => ?_)
        clear hK K
        refine norm_ (a':=?_) ?_ ?_
        rotate_left
        ·show Act.put _ (some 25) _ = _
         simp only [Act.put,sA_,s0_,s1_,i64_w,i32_w]
         rfl
        refine pure_ (i:=9) (N:=some 26) (v:=?_) (a':=?_) #[true,true,true,true,true,true,true,true,true,true] rfl rfl (any_of HT_.out (by kernel_rfl)) (fun _ _ _ h => h) (Or.inl ⟨by rfl, ?_⟩) ?_ ?_
        rotate_left
        ·intro w'
         go_simp
         with_reducible rfl
        rotate_left
        ·simp only [Act.put,sA_,s0_,s1_,i64_w,i32_w]
         rfl
        refine done_ (done_of HT_.out (by kernel_rfl)) ?_
        try go_wp2
        go_roundg k1
        case measure => have:=HK1.out;omega
        case rel => exact ⟨(wrap64 (x5_1 + 1)),(by rfl),H',⟨by have:=HK1.out;omega⟩,⟨by exact HB.out⟩⟩
       ·replace c8:=Bool.eq_false_iff.mpr c8
        subst c8
        have H1 : (some false) = some r:=by rw [if_neg (show ¬ (false = true) by decide)] at H;exact H
        clear H
        have H:=H1
        clear H1
        obtain rfl:=Option.some.inj H
        try go_wp2
        have n0_:=Aside0.mk (below_drew1 HB.out)
        clear HB
        have HB:=n0_
        clear n0_
        have p221 : 0 ≤ (x5_1 : Int):=of_decide_eq_true (by (with_reducible assumption))
        have q221 : x5_1 < (l0.length : Int):=of_decide_eq_true (by (with_reducible assumption))
        obtain ⟨ad221,e221,hx221_0,hx221_1⟩ := at_T35 HR0.out x5_1 p221 q221
        have hw221_1:=hx221_1
        have hw221_0:=hx221_0
        cases e221
        replace hx221_0:=(HB.out.cell (World.block_lt_of_cell? w _ hx221_0)).trans hx221_0
        replace hx221_1:=(HB.out.cell (World.block_lt_of_cell? w _ hx221_1)).trans hx221_1
        replace p221:=eq_true p221
        replace q221:=eq_true q221
        have p222 : 0 ≤ (x5_1 : Int):=of_decide_eq_true (by (with_reducible assumption))
        have q222 : x5_1 < (l1.length : Int):=of_decide_eq_true (by (with_reducible assumption))
        obtain ⟨ad222,e222,hx222_0,hx222_1⟩ := at_T35 HR1.out x5_1 p222 q222
        have hw222_1:=hx222_1
        have hw222_0:=hx222_0
        cases e222
        replace hx222_0:=(HB.out.cell (World.block_lt_of_cell? w _ hx222_0)).trans hx222_0
        replace hx222_1:=(HB.out.cell (World.block_lt_of_cell? w _ hx222_1)).trans hx222_1
        replace p222:=eq_true p222
        replace q222:=eq_true q222
        refine start_ (n:=10) (S:=fun w' => w'.cell? (ad221.add ((x5_1).toNat * 2)) = some (.int .i64 ((rd_T35 l0 x5_1).f0)) ∧ w'.cell? ⟨(ad221.add ((x5_1).toNat * 2)).block,(ad221.add ((x5_1).toNat * 2)).off + 1,none⟩ = some (.int .i64 ((rd_T35 l0 x5_1).f1)) ∧ w'.cell? (ad222.add ((x5_1).toNat * 2)) = some (.int .i64 ((rd_T35 l1 x5_1).f0)) ∧ w'.cell? ⟨(ad222.add ((x5_1).toNat * 2)).block,(ad222.add ((x5_1).toNat * 2)).off + 1,none⟩ = some (.int .i64 ((rd_T35 l1 x5_1).f1))) (ds := []) #[false,false,false,false,false,false,false,false,false,false] (by kernel_rfl) rfl rfl ⟨((HB.out.cell (World.block_lt_of_cell? w _ hw221_0)).trans hw221_0),((HB.out.cell (World.block_lt_of_cell? w _ hw221_1)).trans hw221_1),((HB.out.cell (World.block_lt_of_cell? w _ hw222_0)).trans hw222_0),((HB.out.cell (World.block_lt_of_cell? w _ hw222_1)).trans hw222_1)⟩ (fun hHeld => ?_);refine with_tabW laws_eqRateStepS.tab6 laws_eqRateStepS.bits6 (fun HT_ HW_ => ?_)
        generalize wr.drew = w11 at HB hx221_0 hx221_1 hx222_0 hx222_1 hHeld ⊢
        refine pure_ (i:=0) (N:=some 17) (v:=?_) (a':=?_) #[true,false,false,false,false,false,false,false,false,false] rfl rfl (any_of HT_.out (by kernel_rfl)) (fun _ _ _ h => h) (Or.inl ⟨by rfl, ?_⟩) ?_ ?_
        rotate_left
        ·intro w'
         go_simp
         with_reducible rfl
        rotate_left
        ·simp only [Act.put,sA_,s0_,s1_,i64_w,i32_w]
         rfl
        refine pure_ (i:=1) (N:=some 18) (v:=?_) (a':=?_) #[true,true,false,false,false,false,false,false,false,false] rfl rfl (any_of HT_.out (by kernel_rfl)) (fun _ _ _ h => h) (Or.inl ⟨by rfl, ?_⟩) ?_ ?_
        rotate_left
        ·intro w'
         go_simp
         with_reducible rfl
        rotate_left
        ·simp only [Act.put,sA_,s0_,s1_,i64_w,i32_w]
         rfl
        refine pure_ (i:=2) (N:=some 19) (v:=?_) (a':=?_) #[true,true,true,false,false,false,false,false,false,false] rfl rfl (any_of HT_.out (by kernel_rfl)) (fun _ _ _ h => h) (Or.inl ⟨by rfl, ?_⟩) ?_ ?_
        rotate_left
        ·intro w'
         go_simp
         with_reducible rfl
        rotate_left
        ·simp only [Act.put,sA_,s0_,s1_,i64_w,i32_w]
         rfl
        refine pure_ (i:=4) (N:=some 21) (v:=?_) (a':=?_) #[true,true,true,false,true,false,false,false,false,false] rfl rfl (any_of HT_.out (by kernel_rfl)) (fun _ _ _ h => h) (Or.inl ⟨by rfl, ?_⟩) ?_ ?_
        rotate_left
        ·intro w'
         go_simp
         with_reducible rfl
        rotate_left
        ·simp only [Act.put,sA_,s0_,s1_,i64_w,i32_w]
         rfl
        refine pure_ (i:=5) (N:=some 22) (v:=?_) (a':=?_) #[true,true,true,false,true,true,false,false,false,false] rfl rfl (any_of HT_.out (by kernel_rfl)) (fun _ _ _ h => h) (Or.inl ⟨by rfl, ?_⟩) ?_ ?_
        rotate_left
        ·intro w'
         go_simp
         with_reducible rfl
        rotate_left
        ·simp only [Act.put,sA_,s0_,s1_,i64_w,i32_w]
         rfl
        refine pure_ (i:=6) (N:=some 23) (v:=?_) (a':=?_) #[true,true,true,false,true,true,true,false,false,false] rfl rfl (any_of HT_.out (by kernel_rfl)) (fun _ _ _ h => h) (Or.inl ⟨by rfl, ?_⟩) ?_ ?_
        rotate_left
        ·intro w'
         go_simp
         with_reducible rfl
        rotate_left
        ·simp only [Act.put,sA_,s0_,s1_,i64_w,i32_w]
         rfl
        refine take_ (i:=3) (N:=some 20) (v:=?_) (a':=?_) #[true,true,true,true,true,true,true,false,false,false] rfl rfl (take_ofW HT_.out HW_.out (by kernel_rfl)) (fun _ _ _ h => h) (Or.inl ⟨by rfl, ?_⟩) hHeld ?_ ?_
        rotate_left
        ·rintro w' ⟨s0,s1,s2,s3⟩
         go_simp
         with_reducible rfl
        rotate_left
        ·simp only [Act.put,sA_,s0_,s1_,i64_w,i32_w]
         rfl
        refine take_ (i:=7) (N:=some 24) (v:=?_) (a':=?_) #[true,true,true,true,true,true,true,true,false,false] rfl rfl (take_ofW HT_.out HW_.out (by kernel_rfl)) (fun _ _ _ h => h) (Or.inl ⟨by rfl, ?_⟩) hHeld ?_ ?_
        rotate_left
        ·rintro w' ⟨s0,s1,s2,s3⟩
         go_simp
         with_reducible rfl
        rotate_left
        ·simp only [Act.put,sA_,s0_,s1_,i64_w,i32_w]
         rfl
        refine one_ (i:=8) (N:=some 25) #[true,true,true,true,true,true,true,true,true,false] rfl rfl (one_of HT_.out (by kernel_rfl)) (by decide) (fun K hK => ?_)
        refine goes_ Tryd.func35 (by kernel_rfl) rfl #[.agg #[.int .i64 ((rd_T35 l0 x5_1).f0), .int .i64 ((rd_T35 l0 x5_1).f1)], .agg #[.int .i64 ((rd_T35 l1 x5_1).f0), .int .i64 ((rd_T35 l1 x5_1).f1)]] (by rfl) rfl rfl (by (try simp only [List.map_toArray,List.map_cons,List.map_nil]);rfl) ?_
        with_reducible refine (laws_eqRateStep.calls ((rd_T35 l0 x5_1).f0) ((rd_T35 l0 x5_1).f1) ((rd_T35 l1 x5_1).f0) ((rd_T35 l1 x5_1).f1) false _ A7.out).mono ?_
        rintro e w12 ⟨rfl,hb⟩
        refine ⟨_,rfl, ?_⟩
        have n0_:=Aside0.mk (below_step (by exact HB.out) hb)
        clear HB
        have HB:=n0_
        clear n0_
        (try clear hb)
        (skip)
        (skip)
        (skip)
        refine hK.out _ _ ⟨((HB.out.cell (World.block_lt_of_cell? w _ hw221_0)).trans hw221_0),((HB.out.cell (World.block_lt_of_cell? w _ hw221_1)).trans hw221_1),((HB.out.cell (World.block_lt_of_cell? w _ hw222_0)).trans hw222_0),((HB.out.cell (World.block_lt_of_cell? w _ hw222_1)).trans hw222_1)⟩ (fun hHeld => ?_)
        clear hK K
        refine norm_ (a':=?_) ?_ ?_
        rotate_left
        ·show Act.put _ (some 25) _ = _
         simp only [Act.put,sA_,s0_,s1_,i64_w,i32_w]
         rfl
        refine pure_ (i:=9) (N:=some 26) (v:=?_) (a':=?_) #[true,true,true,true,true,true,true,true,true,true] rfl rfl (any_of HT_.out (by kernel_rfl)) (fun _ _ _ h => h) (Or.inl ⟨by rfl, ?_⟩) ?_ ?_
        rotate_left
        ·intro w'
         go_simp
         with_reducible rfl
        rotate_left
        ·simp only [Act.put,sA_,s0_,s1_,i64_w,i32_w]
         rfl
        refine done_ (done_of HT_.out (by kernel_rfl)) ?_
        try go_wp2
        go_ret
        exact ⟨by rfl,by exact HB.out⟩
      ·rw [if_neg c6] at H
       exact absurd H (by simp)
     ·rw [if_neg c5] at H
      exact absurd H (by simp)
    ·rw [if_neg c4] at H
     have c4b0 : decide (x5_1 < (l0.length : Int)) = false:=decide_eq_false c4
     clear c4
     obtain rfl:=Option.some.inj H
     go_wp2
     go_ret
     exact ⟨by rfl,by exact HB.out⟩
 ·rw [if_neg c3] at H
  have c3b0 : ((l0.length : Int) == (l1.length : Int)) = false:=beq_eq_false_iff_ne.mpr c3
  have c3b1 : ((l0.length : Int) != (l1.length : Int)) = true:=bne_iff_ne.mpr c3
  have c3b2 : (l0.length == l1.length) = false:=by (simp at c3 ⊢;omega)
  obtain rfl:=Option.some.inj H
  go_enter Tryd.func19,Tryd.ntmps19
  go_wp2
  go_ret
  exact ⟨by rfl,by exact HB.out⟩

/-! ### laws_eqCharge: function 6 -/
def laws_eqCharge.f (k : Nat) (a0_0 : Int) (l0_1 : List (S35)) (a0_2 : Int) (a1_0 : Int) (l1_1 : List (S35)) (a1_2 : Int) : Option (Bool):=if a0_0 = a1_0 then ((laws_eqRateStepS.f k l0_1 l1_1).bind fun t226 => (if t226 = true then (if a0_2 = a1_2 then (some true) else (some false)) else (some false))) else (some false)
theorem laws_eqCharge.mono : ∀ a0 a1 a2 a3 a4 a5 k,LeO (laws_eqCharge.f k a0 a1 a2 a3 a4 a5) (laws_eqCharge.f (k + 1) a0 a1 a2 a3 a4 a5):=by
 intro a0 a1 a2 a3 a4 a5 k
 unfold laws_eqCharge.f
 repeat' first
   | (with_reducible exact laws_eqRateStepS.mono _ _ _)
   | (with_reducible exact LeO.refl _)
   | (with_reducible exact LeO.none _)
   | (with_reducible refine LeO.ite ?_ ?_)
   | (with_reducible refine LeO.bind ?_ (fun _ => ?_))
   | exact laws_eqRateStepS.mono _ _ _
   | exact LeO.none _
   | refine LeO.ite ?_ ?_
   | refine LeO.bind ?_ (fun _ => ?_)
set_option maxHeartbeats 8000000 in
set_option maxRecDepth 100000 in
theorem laws_eqCharge.calls (k : Nat) (a0_0 : Int) (A0_1 : Option Addr) (c0_1 : Nat) (l0_1 : List (S35)) (a0_2 : Int) (a1_0 : Int) (A1_1 : Option Addr) (c1_1 : Nat) (l1_1 : List (S35)) (a1_2 : Int) (r : Bool) (w : World) (hr0_1 : Kd.C k35 w A0_1 l0_1.length l0_1) (hc0_1 : l0_1.length ≤ c0_1) (hr1_1 : Kd.C k35 w A1_1 l1_1.length l1_1) (hc1_1 : l1_1.length ≤ c1_1) (h : laws_eqCharge.f k a0_0 l0_1 a0_2 a1_0 l1_1 a1_2 = some r) :
  Calls Tryd.prog 6 #[.agg #[.int .i64 a0_0, .slice A0_1 l0_1.length c0_1, .int .i64 a0_2], .agg #[.int .i64 a1_0, .slice A1_1 l1_1.length c1_1, .int .i64 a1_2]] w fun e w' => e = .returned (.bool r) ∧ Below w.heap.size w w':=by
 have hu24:=Tryd.underlying24
 have HR0_1:=Aside0.mk hr0_1
 have HC0_1:=Aside0.mk hc0_1
 clear hr0_1 hc0_1
 have HR1_1:=Aside0.mk hr1_1
 have HC1_1:=Aside0.mk hc1_1
 clear hr1_1 hc1_1
 have HB:=Aside0.mk (Below.refl w.heap.size w)
 have H : (if a0_0 = a1_0 then ((laws_eqRateStepS.f k l0_1 l1_1).bind fun t226 => (if t226 = true then (if a0_2 = a1_2 then (some true) else (some false)) else (some false))) else (some false)) = some r:=h
 clear h
 by_cases c3 : a0_0 = a1_0
 ·rw [if_pos c3] at H
  have c3b0 : (a0_0 == a1_0) = true:=beq_iff_eq.mpr c3
  have c3b1 : (a0_0 != a1_0) = false:=bne_eq_false_iff_eq.mpr c3
  clear c3
  replace H:=Option.bind_eq_some_iff.mp H
  obtain ⟨t226,A40,H⟩ := H
  replace H : (if t226 = true then (if a0_2 = a1_2 then (some true) else (some false)) else (some false)) = some r:=H
  have A4:=Aside0.mk A40
  clear A40
  by_cases c5 : t226 = true
  ·subst c5
   have H1 : (if a0_2 = a1_2 then (some true) else (some false)) = some r:=by rw [if_pos rfl] at H;exact H
   clear H
   have H:=H1
   clear H1
   by_cases c6 : a0_2 = a1_2
   ·rw [if_pos c6] at H
    have c6b0 : (a0_2 == a1_2) = true:=beq_iff_eq.mpr c6
    have c6b1 : (a0_2 != a1_2) = false:=bne_eq_false_iff_eq.mpr c6
    clear c6
    obtain rfl:=Option.some.inj H
    go_enter Tryd.func6,Tryd.ntmps6
    go_wp2_with (first | ((with_reducible refine gate_dst (N:=2) rfl ?_);refine box_event ?hg (N:=2) ?hd (cs:=#[.int .i64 a0_0, .slice A0_1 l0_1.length c0_1, .int .i64 a0_2]) (t:=24) ?hr ?_;(case hd => rfl);(case hg => rfl);(case hr => (go_simp;done));intro gb224 hg w7 hbox hb;have n0_:=Aside0.mk (below_step (by exact HB.out) hb);have n1_:=Aside0.mk (hbox);have n2_:=Aside0.mk ((by rw [hg];exact (below_size (by exact HB.out)) : w.heap.size ≤ gb224));have n3_:=Aside0.mk ((by rw [hg];exact (below_size (by exact HB.out)) : w.heap.size ≤ gb224));clear HB;have HB:=n0_;have BK224:=n1_;have GW224:=n2_;have GE224:=n3_;clear n0_ n1_ n2_ n3_;clear hb hbox hg) | ((with_reducible refine gate_dst (N:=3) rfl ?_);refine box_event ?hg (N:=3) ?hd (cs:=#[.int .i64 a1_0, .slice A1_1 l1_1.length c1_1, .int .i64 a1_2]) (t:=24) ?hr ?_;(case hd => rfl);(case hg => rfl);(case hr => (go_simp;done));intro gb225 hg w8 hbox hb;have n0_:=Aside0.mk (blk_below (g:=gb224) (o := .cells #[.int .i64 a0_0, .slice A0_1 l0_1.length c0_1, .int .i64 a0_2] 24 (0,0)) (by exact BK224.out) hb);have n1_:=Aside0.mk (below_step (by exact HB.out) hb);have n2_:=Aside0.mk (hbox);have n3_:=Aside0.mk ((by rw [hg];exact (below_size (by exact HB.out)) : w.heap.size ≤ gb225));have n4_:=Aside0.mk ((by rw [hg];exact (below_size (by exact HB.out)) : w.heap.size ≤ gb225));have n5_:=Aside0.mk ((by rw [hg];exact Nat.ne_of_lt (blk_lt (g:=gb224) (o := .cells #[.int .i64 a0_0, .slice A0_1 l0_1.length c0_1, .int .i64 a0_2] 24 (0,0)) (by exact BK224.out)) : gb224 ≠ gb225));have n6_:=Aside0.mk ((by rw [hg];exact Nat.ne_of_gt (blk_lt (g:=gb224) (o := .cells #[.int .i64 a0_0, .slice A0_1 l0_1.length c0_1, .int .i64 a0_2] 24 (0,0)) (by exact BK224.out)) : gb225 ≠ gb224));clear BK224;clear HB;have BK224:=n0_;have HB:=n1_;have BK225:=n2_;have GW225:=n3_;have GE225:=n4_;have NB224_225:=n5_;have NB225_224:=n6_;clear n0_ n1_ n2_ n3_ n4_ n5_ n6_;clear hb hbox hg;have hnb9:=NB224_225.out;have hnc9:=NB225_224.out;have hcz10_0 : w8.cell? ⟨gb224,0,none⟩ = some (.int .i64 a0_0):=(blk_cell BK224.out 0).trans rfl;have hcz10_1 : w8.cell? ⟨gb224,1,none⟩ = some (.slice A0_1 l0_1.length c0_1):=(blk_cell BK224.out 1).trans rfl;have hcz10_2 : w8.cell? ⟨gb224,2,none⟩ = some (.int .i64 a0_2):=(blk_cell BK224.out 2).trans rfl;have hfz10_0:=blk_frozen BK224.out 0;have hfz10_1:=blk_frozen BK224.out 1;have hfz10_2:=blk_frozen BK224.out 2;have hcz11_0 : w8.cell? ⟨gb225,0,none⟩ = some (.int .i64 a1_0):=(blk_cell BK225.out 0).trans rfl;have hcz11_1 : w8.cell? ⟨gb225,1,none⟩ = some (.slice A1_1 l1_1.length c1_1):=(blk_cell BK225.out 1).trans rfl;have hcz11_2 : w8.cell? ⟨gb225,2,none⟩ = some (.int .i64 a1_2):=(blk_cell BK225.out 2).trans rfl;have hfz11_0:=blk_frozen BK225.out 0;have hfz11_1:=blk_frozen BK225.out 1;have hfz11_2:=blk_frozen BK225.out 2) | ((with_reducible refine gate_callee (f:=19) rfl ?_);refine goesL_ (some 14) rfl rfl Tryd.func19 (by kernel_rfl) rfl #[.slice A0_1 l0_1.length c0_1, .slice A1_1 l1_1.length c1_1] rfl (by (try simp only [List.map_toArray,List.map_cons,List.map_nil]);rfl) ?_;(with_reducible refine (laws_eqRateStepS.calls k _ _ l0_1 _ _ l1_1 true _ ?side1 ?side2 ?side3 ?side4 A4.out).mono ?_);(case side1 => repeat (exact (Kd.C_below HR0_1.out HB.out)));(case side2 => exact HC0_1.out);(case side3 => repeat (exact (Kd.C_below HR1_1.out HB.out)));(case side4 => exact HC1_1.out);rintro e w12 ⟨rfl,hb⟩;refine ⟨_,rfl, ?_⟩;have n0_:=Aside0.mk (blk_below (g:=gb224) (o := .cells #[.int .i64 a0_0, .slice A0_1 l0_1.length c0_1, .int .i64 a0_2] 24 (0,0)) (by exact BK224.out) hb);have n1_:=Aside0.mk (blk_below (g:=gb225) (o := .cells #[.int .i64 a1_0, .slice A1_1 l1_1.length c1_1, .int .i64 a1_2] 24 (0,0)) (by exact BK225.out) hb);have n2_:=Aside0.mk (below_step (by exact HB.out) hb);clear BK224;clear BK225;clear HB;have BK224:=n0_;have BK225:=n1_;have HB:=n2_;clear n0_ n1_ n2_;(try clear hb);have hcz13_0 : w12.cell? ⟨gb224,0,none⟩ = some (.int .i64 a0_0):=(blk_cell BK224.out 0).trans rfl;have hcz13_1 : w12.cell? ⟨gb224,1,none⟩ = some (.slice A0_1 l0_1.length c0_1):=(blk_cell BK224.out 1).trans rfl;have hcz13_2 : w12.cell? ⟨gb224,2,none⟩ = some (.int .i64 a0_2):=(blk_cell BK224.out 2).trans rfl;have hfz13_0:=blk_frozen BK224.out 0;have hfz13_1:=blk_frozen BK224.out 1;have hfz13_2:=blk_frozen BK224.out 2;have hcz14_0 : w12.cell? ⟨gb225,0,none⟩ = some (.int .i64 a1_0):=(blk_cell BK225.out 0).trans rfl;have hcz14_1 : w12.cell? ⟨gb225,1,none⟩ = some (.slice A1_1 l1_1.length c1_1):=(blk_cell BK225.out 1).trans rfl;have hcz14_2 : w12.cell? ⟨gb225,2,none⟩ = some (.int .i64 a1_2):=(blk_cell BK225.out 2).trans rfl;have hfz14_0:=blk_frozen BK225.out 0;have hfz14_1:=blk_frozen BK225.out 1;have hfz14_2:=blk_frozen BK225.out 2))
    go_ret
    exact ⟨by rfl,by exact HB.out⟩
   ·rw [if_neg c6] at H
    have c6b0 : (a0_2 == a1_2) = false:=beq_eq_false_iff_ne.mpr c6
    have c6b1 : (a0_2 != a1_2) = true:=bne_iff_ne.mpr c6
    obtain rfl:=Option.some.inj H
    go_enter Tryd.func6,Tryd.ntmps6
    go_wp2_with (first | ((with_reducible refine gate_dst (N:=2) rfl ?_);refine box_event ?hg (N:=2) ?hd (cs:=#[.int .i64 a0_0, .slice A0_1 l0_1.length c0_1, .int .i64 a0_2]) (t:=24) ?hr ?_;(case hd => rfl);(case hg => rfl);(case hr => (go_simp;done));intro gb224 hg w15 hbox hb;have n0_:=Aside0.mk (below_step (by exact HB.out) hb);have n1_:=Aside0.mk (hbox);have n2_:=Aside0.mk ((by rw [hg];exact (below_size (by exact HB.out)) : w.heap.size ≤ gb224));have n3_:=Aside0.mk ((by rw [hg];exact (below_size (by exact HB.out)) : w.heap.size ≤ gb224));clear HB;have HB:=n0_;have BK224:=n1_;have GW224:=n2_;have GE224:=n3_;clear n0_ n1_ n2_ n3_;clear hb hbox hg) | ((with_reducible refine gate_dst (N:=3) rfl ?_);refine box_event ?hg (N:=3) ?hd (cs:=#[.int .i64 a1_0, .slice A1_1 l1_1.length c1_1, .int .i64 a1_2]) (t:=24) ?hr ?_;(case hd => rfl);(case hg => rfl);(case hr => (go_simp;done));intro gb225 hg w16 hbox hb;have n0_:=Aside0.mk (blk_below (g:=gb224) (o := .cells #[.int .i64 a0_0, .slice A0_1 l0_1.length c0_1, .int .i64 a0_2] 24 (0,0)) (by exact BK224.out) hb);have n1_:=Aside0.mk (below_step (by exact HB.out) hb);have n2_:=Aside0.mk (hbox);have n3_:=Aside0.mk ((by rw [hg];exact (below_size (by exact HB.out)) : w.heap.size ≤ gb225));have n4_:=Aside0.mk ((by rw [hg];exact (below_size (by exact HB.out)) : w.heap.size ≤ gb225));have n5_:=Aside0.mk ((by rw [hg];exact Nat.ne_of_lt (blk_lt (g:=gb224) (o := .cells #[.int .i64 a0_0, .slice A0_1 l0_1.length c0_1, .int .i64 a0_2] 24 (0,0)) (by exact BK224.out)) : gb224 ≠ gb225));have n6_:=Aside0.mk ((by rw [hg];exact Nat.ne_of_gt (blk_lt (g:=gb224) (o := .cells #[.int .i64 a0_0, .slice A0_1 l0_1.length c0_1, .int .i64 a0_2] 24 (0,0)) (by exact BK224.out)) : gb225 ≠ gb224));clear BK224;clear HB;have BK224:=n0_;have HB:=n1_;have BK225:=n2_;have GW225:=n3_;have GE225:=n4_;have NB224_225:=n5_;have NB225_224:=n6_;clear n0_ n1_ n2_ n3_ n4_ n5_ n6_;clear hb hbox hg;have hnb17:=NB224_225.out;have hnc17:=NB225_224.out;have hcz18_0 : w16.cell? ⟨gb224,0,none⟩ = some (.int .i64 a0_0):=(blk_cell BK224.out 0).trans rfl;have hcz18_1 : w16.cell? ⟨gb224,1,none⟩ = some (.slice A0_1 l0_1.length c0_1):=(blk_cell BK224.out 1).trans rfl;have hcz18_2 : w16.cell? ⟨gb224,2,none⟩ = some (.int .i64 a0_2):=(blk_cell BK224.out 2).trans rfl;have hfz18_0:=blk_frozen BK224.out 0;have hfz18_1:=blk_frozen BK224.out 1;have hfz18_2:=blk_frozen BK224.out 2;have hcz19_0 : w16.cell? ⟨gb225,0,none⟩ = some (.int .i64 a1_0):=(blk_cell BK225.out 0).trans rfl;have hcz19_1 : w16.cell? ⟨gb225,1,none⟩ = some (.slice A1_1 l1_1.length c1_1):=(blk_cell BK225.out 1).trans rfl;have hcz19_2 : w16.cell? ⟨gb225,2,none⟩ = some (.int .i64 a1_2):=(blk_cell BK225.out 2).trans rfl;have hfz19_0:=blk_frozen BK225.out 0;have hfz19_1:=blk_frozen BK225.out 1;have hfz19_2:=blk_frozen BK225.out 2) | ((with_reducible refine gate_callee (f:=19) rfl ?_);refine goesL_ (some 14) rfl rfl Tryd.func19 (by kernel_rfl) rfl #[.slice A0_1 l0_1.length c0_1, .slice A1_1 l1_1.length c1_1] rfl (by (try simp only [List.map_toArray,List.map_cons,List.map_nil]);rfl) ?_;(with_reducible refine (laws_eqRateStepS.calls k _ _ l0_1 _ _ l1_1 true _ ?side1 ?side2 ?side3 ?side4 A4.out).mono ?_);(case side1 => repeat (exact (Kd.C_below HR0_1.out HB.out)));(case side2 => exact HC0_1.out);(case side3 => repeat (exact (Kd.C_below HR1_1.out HB.out)));(case side4 => exact HC1_1.out);rintro e w20 ⟨rfl,hb⟩;refine ⟨_,rfl, ?_⟩;have n0_:=Aside0.mk (blk_below (g:=gb224) (o := .cells #[.int .i64 a0_0, .slice A0_1 l0_1.length c0_1, .int .i64 a0_2] 24 (0,0)) (by exact BK224.out) hb);have n1_:=Aside0.mk (blk_below (g:=gb225) (o := .cells #[.int .i64 a1_0, .slice A1_1 l1_1.length c1_1, .int .i64 a1_2] 24 (0,0)) (by exact BK225.out) hb);have n2_:=Aside0.mk (below_step (by exact HB.out) hb);clear BK224;clear BK225;clear HB;have BK224:=n0_;have BK225:=n1_;have HB:=n2_;clear n0_ n1_ n2_;(try clear hb);have hcz21_0 : w20.cell? ⟨gb224,0,none⟩ = some (.int .i64 a0_0):=(blk_cell BK224.out 0).trans rfl;have hcz21_1 : w20.cell? ⟨gb224,1,none⟩ = some (.slice A0_1 l0_1.length c0_1):=(blk_cell BK224.out 1).trans rfl;have hcz21_2 : w20.cell? ⟨gb224,2,none⟩ = some (.int .i64 a0_2):=(blk_cell BK224.out 2).trans rfl;have hfz21_0:=blk_frozen BK224.out 0;have hfz21_1:=blk_frozen BK224.out 1;have hfz21_2:=blk_frozen BK224.out 2;have hcz22_0 : w20.cell? ⟨gb225,0,none⟩ = some (.int .i64 a1_0):=(blk_cell BK225.out 0).trans rfl;have hcz22_1 : w20.cell? ⟨gb225,1,none⟩ = some (.slice A1_1 l1_1.length c1_1):=(blk_cell BK225.out 1).trans rfl;have hcz22_2 : w20.cell? ⟨gb225,2,none⟩ = some (.int .i64 a1_2):=(blk_cell BK225.out 2).trans rfl;have hfz22_0:=blk_frozen BK225.out 0;have hfz22_1:=blk_frozen BK225.out 1;have hfz22_2:=blk_frozen BK225.out 2))
    go_ret
    exact ⟨by rfl,by exact HB.out⟩
  ·replace c5:=Bool.eq_false_iff.mpr c5
   subst c5
   have H1 : (some false) = some r:=by rw [if_neg (show ¬ (false = true) by decide)] at H;exact H
   clear H
   have H:=H1
   clear H1
   obtain rfl:=Option.some.inj H
   go_enter Tryd.func6,Tryd.ntmps6
   go_wp2_with (first | ((with_reducible refine gate_dst (N:=2) rfl ?_);refine box_event ?hg (N:=2) ?hd (cs:=#[.int .i64 a0_0, .slice A0_1 l0_1.length c0_1, .int .i64 a0_2]) (t:=24) ?hr ?_;(case hd => rfl);(case hg => rfl);(case hr => (go_simp;done));intro gb224 hg w23 hbox hb;have n0_:=Aside0.mk (below_step (by exact HB.out) hb);have n1_:=Aside0.mk (hbox);have n2_:=Aside0.mk ((by rw [hg];exact (below_size (by exact HB.out)) : w.heap.size ≤ gb224));have n3_:=Aside0.mk ((by rw [hg];exact (below_size (by exact HB.out)) : w.heap.size ≤ gb224));clear HB;have HB:=n0_;have BK224:=n1_;have GW224:=n2_;have GE224:=n3_;clear n0_ n1_ n2_ n3_;clear hb hbox hg) | ((with_reducible refine gate_dst (N:=3) rfl ?_);refine box_event ?hg (N:=3) ?hd (cs:=#[.int .i64 a1_0, .slice A1_1 l1_1.length c1_1, .int .i64 a1_2]) (t:=24) ?hr ?_;(case hd => rfl);(case hg => rfl);(case hr => (go_simp;done));intro gb225 hg w24 hbox hb;have n0_:=Aside0.mk (blk_below (g:=gb224) (o := .cells #[.int .i64 a0_0, .slice A0_1 l0_1.length c0_1, .int .i64 a0_2] 24 (0,0)) (by exact BK224.out) hb);have n1_:=Aside0.mk (below_step (by exact HB.out) hb);have n2_:=Aside0.mk (hbox);have n3_:=Aside0.mk ((by rw [hg];exact (below_size (by exact HB.out)) : w.heap.size ≤ gb225));have n4_:=Aside0.mk ((by rw [hg];exact (below_size (by exact HB.out)) : w.heap.size ≤ gb225));have n5_:=Aside0.mk ((by rw [hg];exact Nat.ne_of_lt (blk_lt (g:=gb224) (o := .cells #[.int .i64 a0_0, .slice A0_1 l0_1.length c0_1, .int .i64 a0_2] 24 (0,0)) (by exact BK224.out)) : gb224 ≠ gb225));have n6_:=Aside0.mk ((by rw [hg];exact Nat.ne_of_gt (blk_lt (g:=gb224) (o := .cells #[.int .i64 a0_0, .slice A0_1 l0_1.length c0_1, .int .i64 a0_2] 24 (0,0)) (by exact BK224.out)) : gb225 ≠ gb224));clear BK224;clear HB;have BK224:=n0_;have HB:=n1_;have BK225:=n2_;have GW225:=n3_;have GE225:=n4_;have NB224_225:=n5_;have NB225_224:=n6_;clear n0_ n1_ n2_ n3_ n4_ n5_ n6_;clear hb hbox hg;have hnb25:=NB224_225.out;have hnc25:=NB225_224.out;have hcz26_0 : w24.cell? ⟨gb224,0,none⟩ = some (.int .i64 a0_0):=(blk_cell BK224.out 0).trans rfl;have hcz26_1 : w24.cell? ⟨gb224,1,none⟩ = some (.slice A0_1 l0_1.length c0_1):=(blk_cell BK224.out 1).trans rfl;have hcz26_2 : w24.cell? ⟨gb224,2,none⟩ = some (.int .i64 a0_2):=(blk_cell BK224.out 2).trans rfl;have hfz26_0:=blk_frozen BK224.out 0;have hfz26_1:=blk_frozen BK224.out 1;have hfz26_2:=blk_frozen BK224.out 2;have hcz27_0 : w24.cell? ⟨gb225,0,none⟩ = some (.int .i64 a1_0):=(blk_cell BK225.out 0).trans rfl;have hcz27_1 : w24.cell? ⟨gb225,1,none⟩ = some (.slice A1_1 l1_1.length c1_1):=(blk_cell BK225.out 1).trans rfl;have hcz27_2 : w24.cell? ⟨gb225,2,none⟩ = some (.int .i64 a1_2):=(blk_cell BK225.out 2).trans rfl;have hfz27_0:=blk_frozen BK225.out 0;have hfz27_1:=blk_frozen BK225.out 1;have hfz27_2:=blk_frozen BK225.out 2) | ((with_reducible refine gate_callee (f:=19) rfl ?_);refine goesL_ (some 14) rfl rfl Tryd.func19 (by kernel_rfl) rfl #[.slice A0_1 l0_1.length c0_1, .slice A1_1 l1_1.length c1_1] rfl (by (try simp only [List.map_toArray,List.map_cons,List.map_nil]);rfl) ?_;(with_reducible refine (laws_eqRateStepS.calls k _ _ l0_1 _ _ l1_1 false _ ?side1 ?side2 ?side3 ?side4 A4.out).mono ?_);(case side1 => repeat (exact (Kd.C_below HR0_1.out HB.out)));(case side2 => exact HC0_1.out);(case side3 => repeat (exact (Kd.C_below HR1_1.out HB.out)));(case side4 => exact HC1_1.out);rintro e w28 ⟨rfl,hb⟩;refine ⟨_,rfl, ?_⟩;have n0_:=Aside0.mk (blk_below (g:=gb224) (o := .cells #[.int .i64 a0_0, .slice A0_1 l0_1.length c0_1, .int .i64 a0_2] 24 (0,0)) (by exact BK224.out) hb);have n1_:=Aside0.mk (blk_below (g:=gb225) (o := .cells #[.int .i64 a1_0, .slice A1_1 l1_1.length c1_1, .int .i64 a1_2] 24 (0,0)) (by exact BK225.out) hb);have n2_:=Aside0.mk (below_step (by exact HB.out) hb);clear BK224;clear BK225;clear HB;have BK224:=n0_;have BK225:=n1_;have HB:=n2_;clear n0_ n1_ n2_;(try clear hb)))
   go_ret
   exact ⟨by rfl,by exact HB.out⟩
 ·rw [if_neg c3] at H
  have c3b0 : (a0_0 == a1_0) = false:=beq_eq_false_iff_ne.mpr c3
  have c3b1 : (a0_0 != a1_0) = true:=bne_iff_ne.mpr c3
  obtain rfl:=Option.some.inj H
  go_enter Tryd.func6,Tryd.ntmps6
  go_wp2_with (first | ((with_reducible refine gate_dst (N:=2) rfl ?_);refine box_event ?hg (N:=2) ?hd (cs:=#[.int .i64 a0_0, .slice A0_1 l0_1.length c0_1, .int .i64 a0_2]) (t:=24) ?hr ?_;(case hd => rfl);(case hg => rfl);(case hr => (go_simp;done));intro gb224 hg w29 hbox hb;have n0_:=Aside0.mk (below_step (by exact HB.out) hb);have n1_:=Aside0.mk (hbox);have n2_:=Aside0.mk ((by rw [hg];exact (below_size (by exact HB.out)) : w.heap.size ≤ gb224));have n3_:=Aside0.mk ((by rw [hg];exact (below_size (by exact HB.out)) : w.heap.size ≤ gb224));clear HB;have HB:=n0_;have BK224:=n1_;have GW224:=n2_;have GE224:=n3_;clear n0_ n1_ n2_ n3_;clear hb hbox hg) | ((with_reducible refine gate_dst (N:=3) rfl ?_);refine box_event ?hg (N:=3) ?hd (cs:=#[.int .i64 a1_0, .slice A1_1 l1_1.length c1_1, .int .i64 a1_2]) (t:=24) ?hr ?_;(case hd => rfl);(case hg => rfl);(case hr => (go_simp;done));intro gb225 hg w30 hbox hb;have n0_:=Aside0.mk (blk_below (g:=gb224) (o := .cells #[.int .i64 a0_0, .slice A0_1 l0_1.length c0_1, .int .i64 a0_2] 24 (0,0)) (by exact BK224.out) hb);have n1_:=Aside0.mk (below_step (by exact HB.out) hb);have n2_:=Aside0.mk (hbox);have n3_:=Aside0.mk ((by rw [hg];exact (below_size (by exact HB.out)) : w.heap.size ≤ gb225));have n4_:=Aside0.mk ((by rw [hg];exact (below_size (by exact HB.out)) : w.heap.size ≤ gb225));have n5_:=Aside0.mk ((by rw [hg];exact Nat.ne_of_lt (blk_lt (g:=gb224) (o := .cells #[.int .i64 a0_0, .slice A0_1 l0_1.length c0_1, .int .i64 a0_2] 24 (0,0)) (by exact BK224.out)) : gb224 ≠ gb225));have n6_:=Aside0.mk ((by rw [hg];exact Nat.ne_of_gt (blk_lt (g:=gb224) (o := .cells #[.int .i64 a0_0, .slice A0_1 l0_1.length c0_1, .int .i64 a0_2] 24 (0,0)) (by exact BK224.out)) : gb225 ≠ gb224));clear BK224;clear HB;have BK224:=n0_;have HB:=n1_;have BK225:=n2_;have GW225:=n3_;have GE225:=n4_;have NB224_225:=n5_;have NB225_224:=n6_;clear n0_ n1_ n2_ n3_ n4_ n5_ n6_;clear hb hbox hg;have hnb31:=NB224_225.out;have hnc31:=NB225_224.out;have hcz32_0 : w30.cell? ⟨gb224,0,none⟩ = some (.int .i64 a0_0):=(blk_cell BK224.out 0).trans rfl;have hcz32_1 : w30.cell? ⟨gb224,1,none⟩ = some (.slice A0_1 l0_1.length c0_1):=(blk_cell BK224.out 1).trans rfl;have hcz32_2 : w30.cell? ⟨gb224,2,none⟩ = some (.int .i64 a0_2):=(blk_cell BK224.out 2).trans rfl;have hfz32_0:=blk_frozen BK224.out 0;have hfz32_1:=blk_frozen BK224.out 1;have hfz32_2:=blk_frozen BK224.out 2;have hcz33_0 : w30.cell? ⟨gb225,0,none⟩ = some (.int .i64 a1_0):=(blk_cell BK225.out 0).trans rfl;have hcz33_1 : w30.cell? ⟨gb225,1,none⟩ = some (.slice A1_1 l1_1.length c1_1):=(blk_cell BK225.out 1).trans rfl;have hcz33_2 : w30.cell? ⟨gb225,2,none⟩ = some (.int .i64 a1_2):=(blk_cell BK225.out 2).trans rfl;have hfz33_0:=blk_frozen BK225.out 0;have hfz33_1:=blk_frozen BK225.out 1;have hfz33_2:=blk_frozen BK225.out 2))
  go_ret
  exact ⟨by rfl,by exact HB.out⟩

/-! ### laws_markRateStepS: function 20 -/
def laws_markRateStepS.l0 : Nat → List (S35) → Int → Int → Option (Int × (List (S35)))
 | 0,_,_,_ => none
 | k + 1,x0,x1,x5 => if x5 < (x0.length : Int) then (if 0 ≤ x5 then ((some (x0.set (x5 : Int).toNat (⟨x1,(rd_T35 x0 x5).f1⟩ : S35) : List (S35))).bind fun y227 => (laws_markRateStepS.l0 k (y227.set (x5 : Int).toNat (⟨(rd_T35 y227 x5).f0,wrap64 (x1 + 1)⟩ : S35)) (wrap64 ((wrap64 (x1 + 1)) + 1)) (wrap64 (x5 + 1)))) else (none)) else (some (x1,x0))
def laws_markRateStepS.f (k : Nat) (l0 : List (S35)) (a1 : Int) : Option (Int × (List (S35))):=laws_markRateStepS.l0 k l0 a1 0
theorem laws_markRateStepS.mono_l : ∀ k,(∀ y0 y1 y2,LeO (laws_markRateStepS.l0 k y0 y1 y2) (laws_markRateStepS.l0 (k + 1) y0 y1 y2))
 | 0 => fun _ _ _ r h => by simp [laws_markRateStepS.l0] at h
 | k + 1 => by
  have ih0:=laws_markRateStepS.mono_l k
  ·intro y0 y1 y2
   unfold laws_markRateStepS.l0
   repeat' first
   | (with_reducible exact ih0 _ _ _)
   | (with_reducible exact LeO.refl _)
   | (with_reducible exact LeO.none _)
   | (with_reducible refine LeO.ite ?_ ?_)
   | (with_reducible refine LeO.bind ?_ (fun _ => ?_))
   | exact ih0 _ _ _
   | exact LeO.none _
   | refine LeO.ite ?_ ?_
   | refine LeO.bind ?_ (fun _ => ?_)
theorem laws_markRateStepS.mono : ∀ a0 a1 k,LeO (laws_markRateStepS.f k a0 a1) (laws_markRateStepS.f (k + 1) a0 a1):=by
 intro a0 a1 k
 have ih0:=laws_markRateStepS.mono_l k
 unfold laws_markRateStepS.f
 repeat' first
   | (with_reducible exact ih0 _ _ _)
   | (with_reducible exact LeO.refl _)
   | (with_reducible exact LeO.none _)
   | (with_reducible refine LeO.ite ?_ ?_)
   | (with_reducible refine LeO.bind ?_ (fun _ => ?_))
   | exact ih0 _ _ _
   | exact LeO.none _
   | refine LeO.ite ?_ ?_
   | refine LeO.bind ?_ (fun _ => ?_)
set_option maxHeartbeats 8000000 in
set_option maxRecDepth 100000 in
theorem laws_markRateStepS.calls (k : Nat) (P0_ : Nat → Prop) (u9000_ : Value) (l0 : List (S35)) (a1 : Int) (r1 : Int) (r2 : List (S35)) (w0 w : World) (hB : Below w0.heap.size w0 w) (ho0 : Kd.R k35 35 w w0.heap.size P0_ u9000_ l0) (h : laws_markRateStepS.f k l0 a1 = some (r1,r2)) :
  Calls Tryd.prog 20 #[u9000_, .int .i64 a1] w fun e w' => e = .returned (.int .i64 r1) ∧ Kd.R k35 35 w' w0.heap.size (fun k_ => (P0_ k_ ∨ w.heap.size ≤ k_)) u9000_ r2 ∧ Below w0.heap.size w0 w' ∧ Kept w w' (fun k_ => P0_ k_):=by
 have HO0:=Aside0.mk (show Kd.R k35 35 w w0.heap.size (fun k_ => (P0_ k_ ∨ w.heap.size ≤ k_)) u9000_ l0 from Kd.R_mono ho0 (fun k_ hk => (.inl hk)))
 have HK:=Aside0.mk (Kept.refl w (fun k_ => P0_ k_))
 have HW0:=Aside0.mk hB.size
 have HB:=Aside0.mk hB
 clear hB
 have H : (laws_markRateStepS.l0 k l0 a1 0) = some (r1,r2):=h
 clear h
 have H':=Aside0.mk H
 clear H
 go_enter Tryd.func20,Tryd.ntmps20
 go_wp2
 go_loopg [1,5] k (fun kq v1 v5 w' => ∃ (x0_1 : List (S35)) (x1_1 : Int) (x5_1 : Int),v1 = .int .i64 x1_1 ∧ v5 = .int .i64 x5_1 ∧ Aside0 (laws_markRateStepS.l0 kq x0_1 x1_1 x5_1 = some (r1,r2)) ∧ Aside0 (kq ≤ k) ∧ Aside0 (Kd.R k35 35 w' w0.heap.size (fun k_ => (P0_ k_ ∨ w.heap.size ≤ k_)) u9000_ x0_1) ∧ Aside0 (Kept w w' (fun k_ => P0_ k_)) ∧ Aside0 (Below w0.heap.size w0 w'))
 case atStart => exact ⟨(l0),(a1),(0),(by rfl),(by rfl),H',⟨Nat.le_refl _⟩,⟨by exact HO0.out⟩,⟨by exact HK.out⟩,⟨by exact HB.out⟩⟩
 case round =>
  clear H'
  try clear c2
  try clear p2
  obtain ⟨x0_1,x1_1,x5_1,rfl,rfl,HA,HK1,HO_0,HK,HB⟩ := hrel
  cases gk with
  | zero => exact absurd HA.out (by simp [laws_markRateStepS.l0])
  | succ k1 =>
   have H:=HA.out
   clear HA
   simp only [laws_markRateStepS.l0] at H
   by_cases c3 : x5_1 < (x0_1.length : Int)
   ·rw [if_pos c3] at H
    have c3b0 : decide (x5_1 < (x0_1.length : Int)) = true:=decide_eq_true c3
    clear c3
    by_cases c4 : 0 ≤ x5_1
    ·rw [if_pos c4] at H
     have c4b0 : decide (0 ≤ x5_1) = true:=decide_eq_true c4
     clear c4
     obtain ⟨y227,hy227⟩ : ∃ y_ : List (S35),y_ = (x0_1.set (x5_1 : Int).toNat (⟨x1_1,(rd_T35 x0_1 x5_1).f1⟩ : S35)):=⟨_,rfl⟩
     replace H : (laws_markRateStepS.l0 k1 (y227.set (x5_1 : Int).toNat (⟨(rd_T35 y227 x5_1).f0,wrap64 (x1_1 + 1)⟩ : S35)) (wrap64 ((wrap64 (x1_1 + 1)) + 1)) (wrap64 (x5_1 + 1))) = some (r1,r2):=by (have H2_:=(Option.bind_some _ _).symm.trans H;rw [hy227];with_reducible exact H2_)
     have Ny227:=Aside0.mk hy227
     clear hy227
     obtain ⟨y228,hy228⟩ : ∃ y_ : List (S35),y_ = (y227.set (x5_1 : Int).toNat (⟨(rd_T35 y227 x5_1).f0,wrap64 (x1_1 + 1)⟩ : S35)):=⟨_,rfl⟩
     replace H : (laws_markRateStepS.l0 k1 y228 (wrap64 ((wrap64 (x1_1 + 1)) + 1)) (wrap64 (x5_1 + 1))) = some (r1,r2):=by (rw [hy228];with_reducible exact H)
     have Ny228:=Aside0.mk hy228
     clear hy228
     have H':=Aside0.mk H
     clear H
     obtain ⟨Ao7,co7,eo7⟩ := Kd.R_slice HO_0.out
     subst eo7
     have p5 : 0 ≤ (x5_1 : Int):=of_decide_eq_true (by (with_reducible assumption))
     have q5 : (x5_1 : Int) < ((x0_1.length : Int) : Int):=of_decide_eq_true (by (with_reducible assumption))
     obtain ⟨go5,co5,eo5,gb5,gl5,cl5,HG5⟩ := Kd.R_form HO_0.out (by omega)
     (cases eo5)
     have GB5:=Aside0.mk gb5
     have GG5:=Aside0.mk HG5
     clear gb5 gl5 HG5
     have HMgo5:=Aside0.mk (show (P0_ go5 ∨ w.heap.size ≤ go5) from (HO_0.out.1 _ rfl))
     obtain ⟨ce5,hcl5,hM5,hcc5,hfr5⟩ := Kd.R_elem HO_0.out z35 (x5_1 : Int) p5 q5
     obtain rfl:=k35_openM hM5
     have hx5_0 : wr.cell? ⟨go5,(x5_1 : Int).toNat * 2,none⟩ = some (.int .i64 ((rd_T35 x0_1 x5_1).f0)):=hcc5 0 _ rfl
     have hx5_1 : wr.cell? ⟨go5,(x5_1 : Int).toNat * 2 + 1,none⟩ = some (.int .i64 ((rd_T35 x0_1 x5_1).f1)):=hcc5 1 _ rfl
     have hf5_0 : wr.frozen? ⟨go5,(x5_1 : Int).toNat * 2,none⟩ = false:=hfr5 0
     have hf5_1 : wr.frozen? ⟨go5,(x5_1 : Int).toNat * 2 + 1,none⟩ = false:=hfr5 1
     clear hcl5 hcc5 hfr5;(try clear hM5)
     replace p5:=eq_true p5
     replace q5:=eq_true q5
     have HX8:=Aside0.mk (show Kd.R k35 35 wr w0.heap.size (fun k_ => (P0_ k_ ∨ w.heap.size ≤ k_)) (.slice (some ⟨go5,0,none⟩) x0_1.length co7) x0_1 from (by exact HO_0.out))
     obtain ⟨ce8,hcl8,hM8,hcc8,hfr8⟩ := Kd.R_elem HX8.out z35 (x5_1 : Int) (of_decide_eq_true (by (with_reducible assumption))) (by have h_ : (x5_1 : Int) < ((x0_1.length : Int) : Int):=of_decide_eq_true (by (with_reducible assumption));exact h_)
     obtain rfl:=k35_openM hM8
     have HP8:=Kd.R_seg HX8.out (x5_1 : Int) (of_decide_eq_true (by (with_reducible assumption))) (by have h_ : (x5_1 : Int) < ((x0_1.length : Int) : Int):=of_decide_eq_true (by (with_reducible assumption));exact h_) (seg := [.int .i64 x1_1]) (j:=0) hcl8 hcc8 (show 1 ≤ 2 from by decide) (x':=(⟨x1_1,(rd_T35 x0_1 x5_1).f1⟩ : S35)) (k35_mkM _ _ _ (⟨x1_1,(rd_T35 x0_1 x5_1).f1⟩ : S35) ) (fun _ hk => hk)
     have hx8_0:=hcc8 0 _ rfl
     (try simp only [show (k35).sz = 2 from rfl,Nat.mul_one,Nat.add_zero] at hx8_0)
     have hf8_0:=hfr8 0
     (try simp only [show (k35).sz = 2 from rfl,Nat.mul_one,Nat.add_zero] at hf8_0)
     clear hcl8 hcc8 hfr8;(try clear hM8)
     go_wp2_with (first | ((with_reducible refine gate_store (t:=3) (p:=16) rfl ?_);refine store_event (t:=3) (p:=16) (v:=?vo_w9) (w1:=(wr.setCell ⟨go5,(x5_1 : Int).toNat * 2,none⟩ (.int .i64 x1_1))) ?hg ?ho ?hn ?hr ?_;(case ho => rfl);(case hg => rfl);(case hn => rfl);(case hr => (go_simp;done));intro w9 hw;have hg : wr.grownBy w9 (some go5):=(by rw [hw];exact HP8.2);have hp_ : Kd.R k35 35 w9 w0.heap.size (fun k_ => (P0_ k_ ∨ w.heap.size ≤ k_)) (.slice (some ⟨go5,0,none⟩) x0_1.length co7) y227:=(by rw [hw,Ny227.out];exact HP8.1);clear HP8;have n0_:=Aside0.mk (hp_);have n1_:=Aside0.mk ((by rw [hw];exact below_set (HB.out) GB5.out : Below w0.heap.size w0 w9));have n2_:=Aside0.mk (Kept.of_grown (S:=(fun k_ => P0_ k_)) hg (by exact HK.out) (fun k_ e_ => (HO_0.out.1 k_ e_)));clear HO_0;clear HB;clear HK;have HO_0:=n0_;have HB:=n1_;have HK:=n2_;clear n0_ n1_ n2_;clear hg hw hp_;have p6 : 0 ≤ (x5_1 : Int):=of_decide_eq_true (by (with_reducible assumption));have q6 : (x5_1 : Int) < ((x0_1.length : Int) : Int):=of_decide_eq_true (by (with_reducible assumption));obtain ⟨ce6,hcl6,hM6,hcc6,hfr6⟩ := Kd.R_elem HO_0.out z35 (x5_1 : Int) p6 q6;obtain rfl:=k35_openM hM6;have hx6_0 : w9.cell? ⟨go5,(x5_1 : Int).toNat * 2,none⟩ = some (.int .i64 ((rd_T35 y227 x5_1).f0)):=hcc6 0 _ rfl;have hx6_1 : w9.cell? ⟨go5,(x5_1 : Int).toNat * 2 + 1,none⟩ = some (.int .i64 ((rd_T35 y227 x5_1).f1)):=hcc6 1 _ rfl;have hf6_0 : w9.frozen? ⟨go5,(x5_1 : Int).toNat * 2,none⟩ = false:=hfr6 0;have hf6_1 : w9.frozen? ⟨go5,(x5_1 : Int).toNat * 2 + 1,none⟩ = false:=hfr6 1;clear hcl6 hcc6 hfr6;(try clear hM6);replace p6:=eq_true p6;replace q6:=eq_true q6;have HX10:=Aside0.mk (show Kd.R k35 35 w9 w0.heap.size (fun k_ => (P0_ k_ ∨ w.heap.size ≤ k_)) (.slice (some ⟨go5,0,none⟩) x0_1.length co7) y227 from (by exact HO_0.out));obtain ⟨ce10,hcl10,hM10,hcc10,hfr10⟩ := Kd.R_elem HX10.out z35 (x5_1 : Int) (of_decide_eq_true (by (with_reducible assumption))) (by have h_ : (x5_1 : Int) < ((x0_1.length : Int) : Int):=of_decide_eq_true (by (with_reducible assumption));exact h_);obtain rfl:=k35_openM hM10;have HP10:=Kd.R_seg HX10.out (x5_1 : Int) (of_decide_eq_true (by (with_reducible assumption))) (by have h_ : (x5_1 : Int) < ((x0_1.length : Int) : Int):=of_decide_eq_true (by (with_reducible assumption));exact h_) (seg := [.int .i64 (wrap64 (x1_1 + 1))]) (j:=1) hcl10 hcc10 (show 2 ≤ 2 from by decide) (x':=(⟨(rd_T35 y227 x5_1).f0,wrap64 (x1_1 + 1)⟩ : S35)) (k35_mkM _ _ _ (⟨(rd_T35 y227 x5_1).f0,wrap64 (x1_1 + 1)⟩ : S35) ) (fun _ hk => hk);have hx10_1:=hcc10 1 _ rfl;(try simp only [show (k35).sz = 2 from rfl,Nat.mul_one,Nat.add_zero] at hx10_1);have hf10_1:=hfr10 1;(try simp only [show (k35).sz = 2 from rfl,Nat.mul_one,Nat.add_zero] at hf10_1);clear hcl10 hcc10 hfr10;(try clear hM10)) | ((with_reducible refine gate_store (t:=3) (p:=23) rfl ?_);refine store_event (t:=3) (p:=23) (v:=?vo_w11) (w1:=(w9.setCell ⟨go5,(x5_1 : Int).toNat * 2 + 1,none⟩ (.int .i64 (wrap64 (x1_1 + 1))))) ?hg ?ho ?hn ?hr ?_;(case ho => rfl);(case hg => rfl);(case hn => rfl);(case hr => (go_simp;done));intro w11 hw;have hg : w9.grownBy w11 (some go5):=(by rw [hw];exact HP10.2);have hp_ : Kd.R k35 35 w11 w0.heap.size (fun k_ => (P0_ k_ ∨ w.heap.size ≤ k_)) (.slice (some ⟨go5,0,none⟩) x0_1.length co7) y228:=(by rw [hw,Ny228.out];exact HP10.1);clear HP10;have n0_:=Aside0.mk (hp_);have n1_:=Aside0.mk ((by rw [hw];exact below_set (HB.out) GB5.out : Below w0.heap.size w0 w11));have n2_:=Aside0.mk (Kept.of_grown (S:=(fun k_ => P0_ k_)) hg (by exact HK.out) (fun k_ e_ => (HO_0.out.1 k_ e_)));clear HO_0;clear HB;clear HK;have HO_0:=n0_;have HB:=n1_;have HK:=n2_;clear n0_ n1_ n2_;clear hg hw hp_))
     go_roundg k1
     case measure => have:=HK1.out;omega
     case rel => exact ⟨(y228),(wrap64 ((wrap64 (x1_1 + 1)) + 1)),(wrap64 (x5_1 + 1)),(by rfl),(by rfl),H',⟨by have:=HK1.out;omega⟩,⟨by exact HO_0.out⟩,⟨by exact HK.out⟩,⟨by exact HB.out⟩⟩
    ·rw [if_neg c4] at H
     exact absurd H (by simp)
   ·rw [if_neg c3] at H
    have c3b0 : decide (x5_1 < (x0_1.length : Int)) = false:=decide_eq_false c3
    clear c3
    simp only [Option.some.injEq,Prod.mk.injEq] at H
    obtain ⟨rfl,rfl⟩ := H
    obtain ⟨Ao12,co12,eo12⟩ := Kd.R_slice HO_0.out
    subst eo12
    go_wp2
    go_ret
    exact ⟨by rfl,by exact HO_0.out,by exact HB.out,by exact HK.out⟩

/-! ### laws_markCharge: function 7 -/
def laws_markCharge.f (k : Nat) (a0_0 : Int) (l0_1 : List (S35)) (a0_2 : Int) (a1 : Int) : Option (Int × (List (S35))):=(laws_markRateStepS.f k l0_1 a1).bind fun bt230 => (some (bt230.1,bt230.2))
theorem laws_markCharge.mono : ∀ a0 a1 a2 a3 k,LeO (laws_markCharge.f k a0 a1 a2 a3) (laws_markCharge.f (k + 1) a0 a1 a2 a3):=by
 intro a0 a1 a2 a3 k
 unfold laws_markCharge.f
 repeat' first
   | (with_reducible exact laws_markRateStepS.mono _ _ _)
   | (with_reducible exact LeO.refl _)
   | (with_reducible exact LeO.none _)
   | (with_reducible refine LeO.ite ?_ ?_)
   | (with_reducible refine LeO.bind ?_ (fun _ => ?_))
   | exact laws_markRateStepS.mono _ _ _
   | exact LeO.none _
   | refine LeO.ite ?_ ?_
   | refine LeO.bind ?_ (fun _ => ?_)
set_option maxHeartbeats 8000000 in
set_option maxRecDepth 100000 in
theorem laws_markCharge.calls (k : Nat) (a0_0 : Int) (P0_1_ : Nat → Prop) (u9000_ : Value) (l0_1 : List (S35)) (a0_2 : Int) (a1 : Int) (r1 : Int) (r2 : List (S35)) (w0 w : World) (hB : Below w0.heap.size w0 w) (ho0_1 : Kd.R k35 35 w w0.heap.size P0_1_ u9000_ l0_1) (h : laws_markCharge.f k a0_0 l0_1 a0_2 a1 = some (r1,r2)) :
  Calls Tryd.prog 7 #[.agg #[.int .i64 a0_0,u9000_, .int .i64 a0_2], .int .i64 a1] w fun e w' => e = .returned (.int .i64 r1) ∧ Kd.R k35 35 w' w0.heap.size (fun k_ => (P0_1_ k_ ∨ w.heap.size ≤ k_)) u9000_ r2 ∧ Below w0.heap.size w0 w' ∧ Kept w w' (fun k_ => P0_1_ k_):=by
 have hu24:=Tryd.underlying24
 have HO0_1:=Aside0.mk (show Kd.R k35 35 w w0.heap.size (fun k_ => (P0_1_ k_ ∨ w.heap.size ≤ k_)) u9000_ l0_1 from Kd.R_mono ho0_1 (fun k_ hk => (.inl hk)))
 have HK:=Aside0.mk (Kept.refl w (fun k_ => P0_1_ k_))
 have HW0:=Aside0.mk hB.size
 have HB:=Aside0.mk hB
 clear hB
 have H : ((laws_markRateStepS.f k l0_1 a1).bind fun bt230 => (some (bt230.1,bt230.2))) = some (r1,r2):=h
 clear h
 replace H:=Option.bind_eq_some_iff.mp H
 obtain ⟨⟨t230,t231⟩,A30,H⟩ := H
 replace H : (some (t230,t231)) = some (r1,r2):=H
 have A3:=Aside0.mk A30
 clear A30
 simp only [Option.some.injEq,Prod.mk.injEq] at H
 obtain ⟨rfl,rfl⟩ := H
 obtain ⟨Ao4,co4,eo4⟩ := Kd.R_slice HO0_1.out
 subst eo4
 go_enter Tryd.func7,Tryd.ntmps7
 go_wp2_with (first | ((with_reducible refine gate_dst (N:=2) rfl ?_);refine box_event ?hg (N:=2) ?hd (cs:=#[.int .i64 a0_0, .slice Ao4 l0_1.length co4, .int .i64 a0_2]) (t:=24) ?hr ?_;(case hd => rfl);(case hg => rfl);(case hr => (go_simp;done));intro gb229 hg w5 hbox hb;have n0_:=Aside0.mk (Kd.R_below (by exact HO0_1.out) hb);have n1_:=Aside0.mk (Kept.below (S:=(fun k_ => P0_1_ k_)) (by exact HK.out) hb);have n2_:=Aside0.mk (below_step (by exact HB.out) hb);have n3_:=Aside0.mk (hbox);have n4_:=Aside0.mk ((by rw [hg];exact (by exact HK.out.1) : w.heap.size ≤ gb229));have n5_:=Aside0.mk ((by rw [hg];exact (below_size (by exact HB.out)) : w0.heap.size ≤ gb229));clear HO0_1;clear HK;clear HB;have HO0_1:=n0_;have HK:=n1_;have HB:=n2_;have BK229:=n3_;have GW229:=n4_;have GE229:=n5_;clear n0_ n1_ n2_ n3_ n4_ n5_;clear hb hbox hg;have hcz6_0 : w5.cell? ⟨gb229,0,none⟩ = some (.int .i64 a0_0):=(blk_cell BK229.out 0).trans rfl;have hcz6_1 : w5.cell? ⟨gb229,1,none⟩ = some (.slice Ao4 l0_1.length co4):=(blk_cell BK229.out 1).trans rfl;have hcz6_2 : w5.cell? ⟨gb229,2,none⟩ = some (.int .i64 a0_2):=(blk_cell BK229.out 2).trans rfl;have hfz6_0:=blk_frozen BK229.out 0;have hfz6_1:=blk_frozen BK229.out 1;have hfz6_2:=blk_frozen BK229.out 2) | ((with_reducible refine gate_callee (f:=20) rfl ?_);refine goesL_ (some 8) rfl rfl Tryd.func20 (by kernel_rfl) rfl #[.slice Ao4 l0_1.length co4, .int .i64 a1] rfl (by (try simp only [List.map_toArray,List.map_cons,List.map_nil]);rfl) ?_;(with_reducible refine (laws_markRateStepS.calls k (fun k_ => some k_ = (.slice Ao4 l0_1.length co4 : Value).ownBlock) (.slice Ao4 l0_1.length co4) l0_1 a1 t230 t231 w0 _ ?side1 ?side2 A3.out).mono ?_);(case side1 => exact HB.out);(case side2 => exact Kd.R_tight rfl HO0_1.out);rintro e w7 ⟨rfl,hy0,hb,hkp⟩;refine ⟨_,rfl, ?_⟩;have n0_:=Aside0.mk (Kd.R_reok rfl hy0 (fun k_ e_ => HO0_1.out.1 k_ e_));have n1_:=Aside0.mk (blk_kept (by exact BK229.out) hkp (fun hs_ => (fun e_ => (Kd.R_ne HO0_1.out BK229.out (by decide)) e_) hs_));have n2_:=Aside0.mk (Kept.then_ (S:=(fun k_ => P0_1_ k_)) (by exact HK.out) hkp (fun k_ hs_ => (fun e_ => (HO0_1.out.1 k_ e_.symm)) hs_));have n3_:=Aside0.mk (hb);clear HO0_1;clear BK229;clear HK;clear HB;have HO0_1:=n0_;have BK229:=n1_;have HK:=n2_;have HB:=n3_;clear n0_ n1_ n2_ n3_;(try clear hb);(try clear hkp);(try clear hy0)))
 go_ret
 exact ⟨by rfl,by exact HO0_1.out,by exact HB.out,by exact HK.out⟩

/-! ### laws_heldRateStepS: function 21 -/
def laws_heldRateStepS.l0 : Nat → List (S35) → Int → Int → Option (Int)
 | 0,_,_,_ => none
 | k + 1,x0,x1,x5 => if x5 < (x0.length : Int) then (if 0 ≤ x5 then (if ((rd_T35 x0 x5).f0) = x1 then (if ((rd_T35 x0 x5).f1) = (wrap64 (x1 + 1)) then (laws_heldRateStepS.l0 k x0 (wrap64 ((wrap64 (x1 + 1)) + 1)) (wrap64 (x5 + 1))) else (some (-1))) else (some (-1))) else (none)) else (some x1)
def laws_heldRateStepS.f (k : Nat) (l0 : List (S35)) (a1 : Int) : Option (Int):=laws_heldRateStepS.l0 k l0 a1 0
theorem laws_heldRateStepS.mono_l : ∀ k,(∀ y0 y1 y2,LeO (laws_heldRateStepS.l0 k y0 y1 y2) (laws_heldRateStepS.l0 (k + 1) y0 y1 y2))
 | 0 => fun _ _ _ r h => by simp [laws_heldRateStepS.l0] at h
 | k + 1 => by
  have ih0:=laws_heldRateStepS.mono_l k
  ·intro y0 y1 y2
   unfold laws_heldRateStepS.l0
   repeat' first
   | (with_reducible exact ih0 _ _ _)
   | (with_reducible exact LeO.refl _)
   | (with_reducible exact LeO.none _)
   | (with_reducible refine LeO.ite ?_ ?_)
   | (with_reducible refine LeO.bind ?_ (fun _ => ?_))
   | exact ih0 _ _ _
   | exact LeO.none _
   | refine LeO.ite ?_ ?_
   | refine LeO.bind ?_ (fun _ => ?_)
theorem laws_heldRateStepS.mono : ∀ a0 a1 k,LeO (laws_heldRateStepS.f k a0 a1) (laws_heldRateStepS.f (k + 1) a0 a1):=by
 intro a0 a1 k
 have ih0:=laws_heldRateStepS.mono_l k
 unfold laws_heldRateStepS.f
 repeat' first
   | (with_reducible exact ih0 _ _ _)
   | (with_reducible exact LeO.refl _)
   | (with_reducible exact LeO.none _)
   | (with_reducible refine LeO.ite ?_ ?_)
   | (with_reducible refine LeO.bind ?_ (fun _ => ?_))
   | exact ih0 _ _ _
   | exact LeO.none _
   | refine LeO.ite ?_ ?_
   | refine LeO.bind ?_ (fun _ => ?_)
set_option maxHeartbeats 8000000 in
set_option maxRecDepth 100000 in
theorem laws_heldRateStepS.calls (k : Nat) (A0 : Option Addr) (c0 : Nat) (l0 : List (S35)) (a1 : Int) (r : Int) (w : World) (hr0 : Kd.C k35 w A0 l0.length l0) (hc0 : l0.length ≤ c0) (h : laws_heldRateStepS.f k l0 a1 = some r) :
  Calls Tryd.prog 21 #[.slice A0 l0.length c0, .int .i64 a1] w fun e w' => e = .returned (.int .i64 r) ∧ Drawn0 w w':=by
 have HR0:=Aside0.mk hr0
 have HC0:=Aside0.mk hc0
 clear hr0 hc0
 have H : (laws_heldRateStepS.l0 k l0 a1 0) = some r:=h
 clear h
 have H':=Aside0.mk H
 clear H
 go_enter Tryd.func21,Tryd.ntmps21
 go_wp2
 go_loopg [1,5] k (fun kq v1 v5 w' => ∃ (x1_1 : Int) (x5_1 : Int),v1 = .int .i64 x1_1 ∧ v5 = .int .i64 x5_1 ∧ Aside0 (laws_heldRateStepS.l0 kq l0 x1_1 x5_1 = some r) ∧ Aside0 (kq ≤ k) ∧ Drawn0 w w')
 case atStart => exact ⟨(a1),(0),(by rfl),(by rfl),H',⟨Nat.le_refl _⟩,by repeat (exact Drawn0.refl _)⟩
 case round =>
  clear H'
  try clear c2
  try clear p2
  obtain ⟨x1_1,x5_1,rfl,rfl,HA,HK1,⟨m1,rfl⟩⟩ := hrel
  cases gk with
  | zero => exact absurd HA.out (by simp [laws_heldRateStepS.l0])
  | succ k1 =>
   have H:=HA.out
   clear HA
   simp only [laws_heldRateStepS.l0] at H
   by_cases c3 : x5_1 < (l0.length : Int)
   ·rw [if_pos c3] at H
    have c3b0 : decide (x5_1 < (l0.length : Int)) = true:=decide_eq_true c3
    clear c3
    by_cases c4 : 0 ≤ x5_1
    ·rw [if_pos c4] at H
     have c4b0 : decide (0 ≤ x5_1) = true:=decide_eq_true c4
     clear c4
     by_cases c5 : ((rd_T35 l0 x5_1).f0) = x1_1
     ·rw [if_pos c5] at H
      have c5b0 : (((rd_T35 l0 x5_1).f0) == x1_1) = true:=beq_iff_eq.mpr c5
      have c5b1 : (((rd_T35 l0 x5_1).f0) != x1_1) = false:=bne_eq_false_iff_eq.mpr c5
      clear c5
      by_cases c6 : ((rd_T35 l0 x5_1).f1) = (wrap64 (x1_1 + 1))
      ·rw [if_pos c6] at H
       have c6b0 : (((rd_T35 l0 x5_1).f1) == (wrap64 (x1_1 + 1))) = true:=beq_iff_eq.mpr c6
       have c6b1 : (((rd_T35 l0 x5_1).f1) != (wrap64 (x1_1 + 1))) = false:=bne_eq_false_iff_eq.mpr c6
       clear c6
       have H':=Aside0.mk H
       clear H
       have p232 : 0 ≤ (x5_1 : Int):=of_decide_eq_true (by (with_reducible assumption))
       have q232 : x5_1 < (l0.length : Int):=of_decide_eq_true (by (with_reducible assumption))
       obtain ⟨ad232,e232,hx232_0,hx232_1⟩ := at_T35 HR0.out x5_1 p232 q232
       cases e232
       replace p232:=eq_true p232
       replace q232:=eq_true q232
       have p233 : 0 ≤ (x5_1 : Int):=of_decide_eq_true (by (with_reducible assumption))
       have q233 : x5_1 < (l0.length : Int):=of_decide_eq_true (by (with_reducible assumption))
       obtain ⟨ad233,e233,hx233_0,hx233_1⟩ := at_T35 HR0.out x5_1 p233 q233
       obtain rfl : ad232 = ad233:=(by injection e233)
       replace p233:=eq_true p233
       replace q233:=eq_true q233
       go_wp2
       go_roundg k1
       case measure => have:=HK1.out;omega
       case rel => exact ⟨(wrap64 ((wrap64 (x1_1 + 1)) + 1)),(wrap64 (x5_1 + 1)),(by rfl),(by rfl),H',⟨by have:=HK1.out;omega⟩,by repeat (first | exact Drawn0.refl _ | apply Drawn0.step)⟩
      ·rw [if_neg c6] at H
       have c6b0 : (((rd_T35 l0 x5_1).f1) == (wrap64 (x1_1 + 1))) = false:=beq_eq_false_iff_ne.mpr c6
       have c6b1 : (((rd_T35 l0 x5_1).f1) != (wrap64 (x1_1 + 1))) = true:=bne_iff_ne.mpr c6
       obtain rfl:=Option.some.inj H
       have p232 : 0 ≤ (x5_1 : Int):=of_decide_eq_true (by (with_reducible assumption))
       have q232 : x5_1 < (l0.length : Int):=of_decide_eq_true (by (with_reducible assumption))
       obtain ⟨ad232,e232,hx232_0,hx232_1⟩ := at_T35 HR0.out x5_1 p232 q232
       cases e232
       replace p232:=eq_true p232
       replace q232:=eq_true q232
       have p233 : 0 ≤ (x5_1 : Int):=of_decide_eq_true (by (with_reducible assumption))
       have q233 : x5_1 < (l0.length : Int):=of_decide_eq_true (by (with_reducible assumption))
       obtain ⟨ad233,e233,hx233_0,hx233_1⟩ := at_T35 HR0.out x5_1 p233 q233
       obtain rfl : ad232 = ad233:=(by injection e233)
       replace p233:=eq_true p233
       replace q233:=eq_true q233
       go_wp2
       go_ret
       exact ⟨by rfl,by repeat (first | exact Drawn0.refl _ | apply Drawn0.step)⟩
     ·rw [if_neg c5] at H
      have c5b0 : (((rd_T35 l0 x5_1).f0) == x1_1) = false:=beq_eq_false_iff_ne.mpr c5
      have c5b1 : (((rd_T35 l0 x5_1).f0) != x1_1) = true:=bne_iff_ne.mpr c5
      obtain rfl:=Option.some.inj H
      have p232 : 0 ≤ (x5_1 : Int):=of_decide_eq_true (by (with_reducible assumption))
      have q232 : x5_1 < (l0.length : Int):=of_decide_eq_true (by (with_reducible assumption))
      obtain ⟨ad232,e232,hx232_0,hx232_1⟩ := at_T35 HR0.out x5_1 p232 q232
      cases e232
      replace p232:=eq_true p232
      replace q232:=eq_true q232
      go_wp2
      go_ret
      exact ⟨by rfl,by repeat (first | exact Drawn0.refl _ | apply Drawn0.step)⟩
    ·rw [if_neg c4] at H
     exact absurd H (by simp)
   ·rw [if_neg c3] at H
    have c3b0 : decide (x5_1 < (l0.length : Int)) = false:=decide_eq_false c3
    clear c3
    obtain rfl:=Option.some.inj H
    go_wp2
    go_ret
    exact ⟨by rfl,by repeat (first | exact Drawn0.refl _ | apply Drawn0.step)⟩

/-! ### laws_heldCharge: function 8 -/
def laws_heldCharge.f (k : Nat) (a0_0 : Int) (l0_1 : List (S35)) (a0_2 : Int) (a1 : Int) : Option (Int):=(laws_heldRateStepS.f k l0_1 a1).bind fun t235 => (if t235 < 0 then (some (-1)) else (some t235))
theorem laws_heldCharge.mono : ∀ a0 a1 a2 a3 k,LeO (laws_heldCharge.f k a0 a1 a2 a3) (laws_heldCharge.f (k + 1) a0 a1 a2 a3):=by
 intro a0 a1 a2 a3 k
 unfold laws_heldCharge.f
 repeat' first
   | (with_reducible exact laws_heldRateStepS.mono _ _ _)
   | (with_reducible exact LeO.refl _)
   | (with_reducible exact LeO.none _)
   | (with_reducible refine LeO.ite ?_ ?_)
   | (with_reducible refine LeO.bind ?_ (fun _ => ?_))
   | exact laws_heldRateStepS.mono _ _ _
   | exact LeO.none _
   | refine LeO.ite ?_ ?_
   | refine LeO.bind ?_ (fun _ => ?_)
set_option maxHeartbeats 8000000 in
set_option maxRecDepth 100000 in
theorem laws_heldCharge.calls (k : Nat) (a0_0 : Int) (A0_1 : Option Addr) (c0_1 : Nat) (l0_1 : List (S35)) (a0_2 : Int) (a1 : Int) (r : Int) (w : World) (hr0_1 : Kd.C k35 w A0_1 l0_1.length l0_1) (hc0_1 : l0_1.length ≤ c0_1) (h : laws_heldCharge.f k a0_0 l0_1 a0_2 a1 = some r) :
  Calls Tryd.prog 8 #[.agg #[.int .i64 a0_0, .slice A0_1 l0_1.length c0_1, .int .i64 a0_2], .int .i64 a1] w fun e w' => e = .returned (.int .i64 r) ∧ Below w.heap.size w w':=by
 have hu24:=Tryd.underlying24
 have HR0_1:=Aside0.mk hr0_1
 have HC0_1:=Aside0.mk hc0_1
 clear hr0_1 hc0_1
 have HB:=Aside0.mk (Below.refl w.heap.size w)
 have H : ((laws_heldRateStepS.f k l0_1 a1).bind fun t235 => (if t235 < 0 then (some (-1)) else (some t235))) = some r:=h
 clear h
 replace H:=Option.bind_eq_some_iff.mp H
 obtain ⟨t235,A30,H⟩ := H
 replace H : (if t235 < 0 then (some (-1)) else (some t235)) = some r:=H
 have A3:=Aside0.mk A30
 clear A30
 by_cases c4 : t235 < 0
 ·rw [if_pos c4] at H
  have c4b0 : decide (t235 < 0) = true:=decide_eq_true c4
  clear c4
  obtain rfl:=Option.some.inj H
  go_enter Tryd.func8,Tryd.ntmps8
  go_wp2_with (first | ((with_reducible refine gate_dst (N:=2) rfl ?_);refine box_event ?hg (N:=2) ?hd (cs:=#[.int .i64 a0_0, .slice A0_1 l0_1.length c0_1, .int .i64 a0_2]) (t:=24) ?hr ?_;(case hd => rfl);(case hg => rfl);(case hr => (go_simp;done));intro gb234 hg w5 hbox hb;have n0_:=Aside0.mk (below_step (by exact HB.out) hb);have n1_:=Aside0.mk (hbox);have n2_:=Aside0.mk ((by rw [hg];exact (below_size (by exact HB.out)) : w.heap.size ≤ gb234));have n3_:=Aside0.mk ((by rw [hg];exact (below_size (by exact HB.out)) : w.heap.size ≤ gb234));clear HB;have HB:=n0_;have BK234:=n1_;have GW234:=n2_;have GE234:=n3_;clear n0_ n1_ n2_ n3_;clear hb hbox hg;have hcz6_0 : w5.cell? ⟨gb234,0,none⟩ = some (.int .i64 a0_0):=(blk_cell BK234.out 0).trans rfl;have hcz6_1 : w5.cell? ⟨gb234,1,none⟩ = some (.slice A0_1 l0_1.length c0_1):=(blk_cell BK234.out 1).trans rfl;have hcz6_2 : w5.cell? ⟨gb234,2,none⟩ = some (.int .i64 a0_2):=(blk_cell BK234.out 2).trans rfl;have hfz6_0:=blk_frozen BK234.out 0;have hfz6_1:=blk_frozen BK234.out 1;have hfz6_2:=blk_frozen BK234.out 2) | ((with_reducible refine gate_callee (f:=21) rfl ?_);refine goesL_ (some 8) rfl rfl Tryd.func21 (by kernel_rfl) rfl #[.slice A0_1 l0_1.length c0_1, .int .i64 a1] rfl (by (try simp only [List.map_toArray,List.map_cons,List.map_nil]);rfl) ?_;(with_reducible refine (laws_heldRateStepS.calls k _ _ l0_1 a1 t235 _ ?side1 ?side2 A3.out).mono ?_);(case side1 => repeat (exact (Kd.C_below HR0_1.out HB.out)));(case side2 => exact HC0_1.out);rintro e w' ⟨rfl,⟨nd,rfl⟩⟩;refine ⟨_,rfl, ?_⟩))
  go_ret
  exact ⟨by rfl,by repeat ((with_reducible first | exact HB.out | apply pw_below_drewN))⟩
 ·rw [if_neg c4] at H
  have c4b0 : decide (t235 < 0) = false:=decide_eq_false c4
  clear c4
  obtain rfl:=Option.some.inj H
  go_enter Tryd.func8,Tryd.ntmps8
  go_wp2_with (first | ((with_reducible refine gate_dst (N:=2) rfl ?_);refine box_event ?hg (N:=2) ?hd (cs:=#[.int .i64 a0_0, .slice A0_1 l0_1.length c0_1, .int .i64 a0_2]) (t:=24) ?hr ?_;(case hd => rfl);(case hg => rfl);(case hr => (go_simp;done));intro gb234 hg w7 hbox hb;have n0_:=Aside0.mk (below_step (by exact HB.out) hb);have n1_:=Aside0.mk (hbox);have n2_:=Aside0.mk ((by rw [hg];exact (below_size (by exact HB.out)) : w.heap.size ≤ gb234));have n3_:=Aside0.mk ((by rw [hg];exact (below_size (by exact HB.out)) : w.heap.size ≤ gb234));clear HB;have HB:=n0_;have BK234:=n1_;have GW234:=n2_;have GE234:=n3_;clear n0_ n1_ n2_ n3_;clear hb hbox hg;have hcz8_0 : w7.cell? ⟨gb234,0,none⟩ = some (.int .i64 a0_0):=(blk_cell BK234.out 0).trans rfl;have hcz8_1 : w7.cell? ⟨gb234,1,none⟩ = some (.slice A0_1 l0_1.length c0_1):=(blk_cell BK234.out 1).trans rfl;have hcz8_2 : w7.cell? ⟨gb234,2,none⟩ = some (.int .i64 a0_2):=(blk_cell BK234.out 2).trans rfl;have hfz8_0:=blk_frozen BK234.out 0;have hfz8_1:=blk_frozen BK234.out 1;have hfz8_2:=blk_frozen BK234.out 2) | ((with_reducible refine gate_callee (f:=21) rfl ?_);refine goesL_ (some 8) rfl rfl Tryd.func21 (by kernel_rfl) rfl #[.slice A0_1 l0_1.length c0_1, .int .i64 a1] rfl (by (try simp only [List.map_toArray,List.map_cons,List.map_nil]);rfl) ?_;(with_reducible refine (laws_heldRateStepS.calls k _ _ l0_1 a1 t235 _ ?side1 ?side2 A3.out).mono ?_);(case side1 => repeat (exact (Kd.C_below HR0_1.out HB.out)));(case side2 => exact HC0_1.out);rintro e w' ⟨rfl,⟨nd,rfl⟩⟩;refine ⟨_,rfl, ?_⟩))
  go_ret
  exact ⟨by rfl,by repeat ((with_reducible first | exact HB.out | apply pw_below_drewN))⟩

end Go.Proofs.YthogpinmmddicaaDoor.PFnExactParseCharge
