-- Written by a program of this session, over the kit's print (wip/xprint.py)
import Derived.Test.YteebkbikpamkmaaPFnExactHeldContainersx0
import Derived.Test.YteebkbikpamkmaaPFnExactHeldContainersx8
namespace Go.Proofs.Yteebkbikpamkmaa.PFnExactHeldContainers
open Go.RowKit Go.Proofs.YteebkbikpamkmaaW.PrintWords Go.Proofs.YteebkbikpamkmaaW.PrintLast Go.Proofs.YteebkbikpamkmaaW.PrintMore
attribute [local go_sem] max2_int min2_int max_two min_two max_three min_three max_four min_four   -- for this text's walks alone
set_option linter.unusedVariables false
set_option linter.unusedSimpArgs false

/-! ### laws_eqEntryS: function 24 -/
def laws_eqEntryS.l0 : Nat → List (S52) → List (S52) → Int → Option (Bool)
 | 0,_,_,_ => none
 | k + 1,x0,x1,x5 => if x5 < (x0.length : Int) then (if 0 ≤ x5 then (if x5 < (x1.length : Int) then ((laws_eqEntry.f ((rd_T52 x0 x5).f0) ((rd_T52 x0 x5).f1) ((rd_T52 x0 x5).f2) ((rd_T52 x0 x5).f3) ((rd_T52 x1 x5).f0) ((rd_T52 x1 x5).f1) ((rd_T52 x1 x5).f2) ((rd_T52 x1 x5).f3)).bind fun t247 => (if t247 = true then (laws_eqEntryS.l0 k x0 x1 (wrap64 (x5 + 1))) else (some false))) else (none)) else (none)) else (some true)
def laws_eqEntryS.f (k : Nat) (l0 : List (S52)) (l1 : List (S52)) : Option (Bool):=if (l0.length : Int) = (l1.length : Int) then (laws_eqEntryS.l0 k l0 l1 0) else (some false)
theorem laws_eqEntryS.mono_l : ∀ k,(∀ y0 y1 y2,LeO (laws_eqEntryS.l0 k y0 y1 y2) (laws_eqEntryS.l0 (k + 1) y0 y1 y2))
 | 0 => fun _ _ _ r h => by simp [laws_eqEntryS.l0] at h
 | k + 1 => by
  have ih0:=laws_eqEntryS.mono_l k
  ·intro y0 y1 y2
   unfold laws_eqEntryS.l0
   repeat' first
   | (with_reducible exact ih0 _ _ _)
   | (with_reducible exact LeO.refl _)
   | (with_reducible exact LeO.none _)
   | (with_reducible refine LeO.ite ?_ ?_)
   | (with_reducible refine LeO.bind ?_ (fun _ => ?_))
   | exact ih0 _ _ _
   | exact LeO.none _
   | refine LeO.ite ?_ ?_
   | refine LeO.bind ?_ (fun _ => ?_)
theorem laws_eqEntryS.mono : ∀ a0 a1 k,LeO (laws_eqEntryS.f k a0 a1) (laws_eqEntryS.f (k + 1) a0 a1):=by
 intro a0 a1 k
 have ih0:=laws_eqEntryS.mono_l k
 unfold laws_eqEntryS.f
 repeat' first
   | (with_reducible exact ih0 _ _ _)
   | (with_reducible exact LeO.refl _)
   | (with_reducible exact LeO.none _)
   | (with_reducible refine LeO.ite ?_ ?_)
   | (with_reducible refine LeO.bind ?_ (fun _ => ?_))
   | exact ih0 _ _ _
   | exact LeO.none _
   | refine LeO.ite ?_ ?_
   | refine LeO.bind ?_ (fun _ => ?_)
def laws_eqEntryS.T6 : Bool × List (List Nat × List Nat):=(true,[([],[]),([],[]),([0,1],[0,1]),([2],[2]),([],[]),([],[]),([4,5],[4,5]),([6],[6]),([3,7],[3,7]),([8],[8])])
def laws_eqEntryS.B6 : List Nat := [0,0,3,7,0,0,48,112,255,511]
theorem laws_eqEntryS.tab6 : rtab .any (opsOf Try.f24 6) = laws_eqEntryS.T6:=by kernel_rfl
theorem laws_eqEntryS.bits6 : waitsOk laws_eqEntryS.T6.2 laws_eqEntryS.B6 = true:=by kernel_rfl
set_option maxHeartbeats 8000000 in
set_option maxRecDepth 100000 in
theorem laws_eqEntryS.calls (k : Nat) (A0 : Option Addr) (c0 : Nat) (l0 : List (S52)) (A1 : Option Addr) (c1 : Nat) (l1 : List (S52)) (r : Bool) (w : World) (hr0 : Kd.C k52 w A0 l0.length l0) (hc0 : l0.length ≤ c0) (hr1 : Kd.C k52 w A1 l1.length l1) (hc1 : l1.length ≤ c1) (h : laws_eqEntryS.f k l0 l1 = some r) :
  Calls Try.prog 24 #[.slice A0 l0.length c0, .slice A1 l1.length c1] w fun e w' => e = .returned (.bool r) ∧ Below w.heap.size w w':=by
 have hu52:=Try.underlying52
 have HR0:=Aside0.mk hr0
 have HC0:=Aside0.mk hc0
 clear hr0 hc0
 have HR1:=Aside0.mk hr1
 have HC1:=Aside0.mk hc1
 clear hr1 hc1
 have HB:=Aside0.mk (Below.refl w.heap.size w)
 have H : (if (l0.length : Int) = (l1.length : Int) then (laws_eqEntryS.l0 k l0 l1 0) else (some false)) = some r:=h
 clear h
 by_cases c3 : (l0.length : Int) = (l1.length : Int)
 ·rw [if_pos c3] at H
  have c3b0 : ((l0.length : Int) == (l1.length : Int)) = true:=beq_iff_eq.mpr c3
  have c3b1 : ((l0.length : Int) != (l1.length : Int)) = false:=bne_eq_false_iff_eq.mpr c3
  have c3b2 : (l0.length == l1.length) = true:=by (simp at c3 ⊢;omega)
  clear c3
  have H':=Aside0.mk H
  clear H
  go_enter Try.func24,Try.ntmps24
  go_wp2
  (skip)
  go_loopg [5] k (fun kq v5 w' => ∃ (x5_1 : Int),v5 = .int .i64 x5_1 ∧ Aside0 (laws_eqEntryS.l0 kq l0 l1 x5_1 = some r) ∧ Aside0 (kq ≤ k) ∧ Aside0 (Below w.heap.size w w'))
  case atStart => exact ⟨(0),(by rfl),H',⟨Nat.le_refl _⟩,⟨by exact HB.out⟩⟩
  case round =>
   clear H'
   try clear c1
   try clear c2
   try clear p2
   try clear c3
   try clear c3b0
   try clear c3b1
   try clear c3b2
   obtain ⟨x5_1,rfl,HA,HK1,HB⟩ := hrel
   cases gk with
   | zero => exact absurd HA.out (by simp [laws_eqEntryS.l0])
   | succ k1 =>
    have H:=HA.out
    clear HA
    simp only [laws_eqEntryS.l0] at H
    by_cases c4 : x5_1 < (l0.length : Int)
    ·rw [if_pos c4] at H
     have c4b0 : decide (x5_1 < (l0.length : Int)) = true:=decide_eq_true c4
     clear c4
     by_cases c5 : 0 ≤ x5_1
     ·rw [if_pos c5] at H
      have c5b0 : decide (0 ≤ x5_1) = true:=decide_eq_true c5
      clear c5
      by_cases c6 : x5_1 < (l1.length : Int)
      ·rw [if_pos c6] at H
       have c6b0 : decide (x5_1 < (l1.length : Int)) = true:=decide_eq_true c6
       clear c6
       replace H:=Option.bind_eq_some_iff.mp H
       obtain ⟨t247,A70,H⟩ := H
       replace H : (if t247 = true then (laws_eqEntryS.l0 k1 l0 l1 (wrap64 (x5_1 + 1))) else (some false)) = some r:=H
       have A7:=Aside0.mk A70
       clear A70
       by_cases c8 : t247 = true
       ·subst c8
        have H1 : (laws_eqEntryS.l0 k1 l0 l1 (wrap64 (x5_1 + 1))) = some r:=by rw [if_pos rfl] at H;exact H
        clear H
        have H:=H1
        clear H1
        have H':=Aside0.mk H
        clear H
        try go_wp2
        have n0_:=Aside0.mk (below_drew1 HB.out)
        clear HB
        have HB:=n0_
        clear n0_
        have p245 : 0 ≤ (x5_1 : Int):=of_decide_eq_true (by (with_reducible assumption))
        have q245 : x5_1 < (l0.length : Int):=of_decide_eq_true (by (with_reducible assumption))
        obtain ⟨ad245,e245,hx245_0,hx245_1,hx245_2,hx245_3⟩ := at_T52 HR0.out x5_1 p245 q245
        have hw245_3:=hx245_3
        have hw245_2:=hx245_2
        have hw245_1:=hx245_1
        have hw245_0:=hx245_0
        cases e245
        replace hx245_0:=(HB.out.cell (World.block_lt_of_cell? w _ hx245_0)).trans hx245_0
        replace hx245_1:=(HB.out.cell (World.block_lt_of_cell? w _ hx245_1)).trans hx245_1
        replace hx245_2:=(HB.out.cell (World.block_lt_of_cell? w _ hx245_2)).trans hx245_2
        replace hx245_3:=(HB.out.cell (World.block_lt_of_cell? w _ hx245_3)).trans hx245_3
        replace p245:=eq_true p245
        replace q245:=eq_true q245
        have p246 : 0 ≤ (x5_1 : Int):=of_decide_eq_true (by (with_reducible assumption))
        have q246 : x5_1 < (l1.length : Int):=of_decide_eq_true (by (with_reducible assumption))
        obtain ⟨ad246,e246,hx246_0,hx246_1,hx246_2,hx246_3⟩ := at_T52 HR1.out x5_1 p246 q246
        have hw246_3:=hx246_3
        have hw246_2:=hx246_2
        have hw246_1:=hx246_1
        have hw246_0:=hx246_0
        cases e246
        replace hx246_0:=(HB.out.cell (World.block_lt_of_cell? w _ hx246_0)).trans hx246_0
        replace hx246_1:=(HB.out.cell (World.block_lt_of_cell? w _ hx246_1)).trans hx246_1
        replace hx246_2:=(HB.out.cell (World.block_lt_of_cell? w _ hx246_2)).trans hx246_2
        replace hx246_3:=(HB.out.cell (World.block_lt_of_cell? w _ hx246_3)).trans hx246_3
        replace p246:=eq_true p246
        replace q246:=eq_true q246
        refine start_ (n:=10) (S:=fun w' => w'.cell? (ad245.add ((x5_1).toNat * 4)) = some (.int .i64 ((rd_T52 l0 x5_1).f0)) ∧ w'.cell? ⟨(ad245.add ((x5_1).toNat * 4)).block,(ad245.add ((x5_1).toNat * 4)).off + 1,none⟩ = some (.string ((rd_T52 l0 x5_1).f1)) ∧ w'.cell? ⟨(ad245.add ((x5_1).toNat * 4)).block,(ad245.add ((x5_1).toNat * 4)).off + 2,none⟩ = some (.bool ((rd_T52 l0 x5_1).f2)) ∧ w'.cell? ⟨(ad245.add ((x5_1).toNat * 4)).block,(ad245.add ((x5_1).toNat * 4)).off + 3,none⟩ = some (.int .i64 ((rd_T52 l0 x5_1).f3)) ∧ w'.cell? (ad246.add ((x5_1).toNat * 4)) = some (.int .i64 ((rd_T52 l1 x5_1).f0)) ∧ w'.cell? ⟨(ad246.add ((x5_1).toNat * 4)).block,(ad246.add ((x5_1).toNat * 4)).off + 1,none⟩ = some (.string ((rd_T52 l1 x5_1).f1)) ∧ w'.cell? ⟨(ad246.add ((x5_1).toNat * 4)).block,(ad246.add ((x5_1).toNat * 4)).off + 2,none⟩ = some (.bool ((rd_T52 l1 x5_1).f2)) ∧ w'.cell? ⟨(ad246.add ((x5_1).toNat * 4)).block,(ad246.add ((x5_1).toNat * 4)).off + 3,none⟩ = some (.int .i64 ((rd_T52 l1 x5_1).f3))) (ds := []) #[false,false,false,false,false,false,false,false,false,false] (by kernel_rfl) rfl rfl ⟨((HB.out.cell (World.block_lt_of_cell? w _ hw245_0)).trans hw245_0),((HB.out.cell (World.block_lt_of_cell? w _ hw245_1)).trans hw245_1),((HB.out.cell (World.block_lt_of_cell? w _ hw245_2)).trans hw245_2),((HB.out.cell (World.block_lt_of_cell? w _ hw245_3)).trans hw245_3),((HB.out.cell (World.block_lt_of_cell? w _ hw246_0)).trans hw246_0),((HB.out.cell (World.block_lt_of_cell? w _ hw246_1)).trans hw246_1),((HB.out.cell (World.block_lt_of_cell? w _ hw246_2)).trans hw246_2),((HB.out.cell (World.block_lt_of_cell? w _ hw246_3)).trans hw246_3)⟩ (fun hHeld => ?_);refine with_tabW laws_eqEntryS.tab6 laws_eqEntryS.bits6 (fun HT_ HW_ => ?_)
        generalize wr.drew = w9 at HB hx245_0 hx245_1 hx245_2 hx245_3 hx246_0 hx246_1 hx246_2 hx246_3 hHeld ⊢
        refine pure_ (i:=0) (N:=some 17) (v:=?_) (a':=?_) #[true,false,false,false,false,false,false,false,false,false] rfl rfl (any_of HT_.out (by kernel_rfl)) (fun _ _ _ h => h) (Or.inl ⟨by rfl, ?_⟩) ?_ ?_
        rotate_left
        ·intro w'
         go_simp
         with_reducible rfl
        rotate_left
        ·simp only [Act.put,sA_,s0_,s1_,i64_w,i32_w]
         rfl
        refine pure_ (i:=1) (N:=some 18) (v:=?_) (a':=?_) #[true,true,false,false,false,false,false,false,false,false] rfl rfl (any_of HT_.out (by kernel_rfl)) (fun _ _ _ h => h) (Or.inl ⟨by rfl, ?_⟩) ?_ ?_
        rotate_left
        ·intro w'
         go_simp
         with_reducible rfl
        rotate_left
        ·simp only [Act.put,sA_,s0_,s1_,i64_w,i32_w]
         rfl
        refine pure_ (i:=2) (N:=some 19) (v:=?_) (a':=?_) #[true,true,true,false,false,false,false,false,false,false] rfl rfl (any_of HT_.out (by kernel_rfl)) (fun _ _ _ h => h) (Or.inl ⟨by rfl, ?_⟩) ?_ ?_
        rotate_left
        ·intro w'
         go_simp
         with_reducible rfl
        rotate_left
        ·simp only [Act.put,sA_,s0_,s1_,i64_w,i32_w]
         rfl
        refine pure_ (i:=4) (N:=some 21) (v:=?_) (a':=?_) #[true,true,true,false,true,false,false,false,false,false] rfl rfl (any_of HT_.out (by kernel_rfl)) (fun _ _ _ h => h) (Or.inl ⟨by rfl, ?_⟩) ?_ ?_
        rotate_left
        ·intro w'
         go_simp
         with_reducible rfl
        rotate_left
        ·simp only [Act.put,sA_,s0_,s1_,i64_w,i32_w]
         rfl
        refine pure_ (i:=5) (N:=some 22) (v:=?_) (a':=?_) #[true,true,true,false,true,true,false,false,false,false] rfl rfl (any_of HT_.out (by kernel_rfl)) (fun _ _ _ h => h) (Or.inl ⟨by rfl, ?_⟩) ?_ ?_
        rotate_left
        ·intro w'
         go_simp
         with_reducible rfl
        rotate_left
        ·simp only [Act.put,sA_,s0_,s1_,i64_w,i32_w]
         rfl
        refine pure_ (i:=6) (N:=some 23) (v:=?_) (a':=?_) #[true,true,true,false,true,true,true,false,false,false] rfl rfl (any_of HT_.out (by kernel_rfl)) (fun _ _ _ h => h) (Or.inl ⟨by rfl, ?_⟩) ?_ ?_
        rotate_left
        ·intro w'
         go_simp
         with_reducible rfl
        rotate_left
        ·simp only [Act.put,sA_,s0_,s1_,i64_w,i32_w]
         rfl
        refine take_ (i:=3) (N:=some 20) (v:=?_) (a':=?_) #[true,true,true,true,true,true,true,false,false,false] rfl rfl (take_ofW HT_.out HW_.out (by kernel_rfl)) (fun _ _ _ h => h) (Or.inl ⟨by rfl, ?_⟩) hHeld ?_ ?_
        rotate_left
        ·rintro w' ⟨s0,s1,s2,s3,s4,s5,s6,s7⟩
         go_simp
         with_reducible rfl
        rotate_left
        ·simp only [Act.put,sA_,s0_,s1_,i64_w,i32_w]
         rfl
        refine take_ (i:=7) (N:=some 24) (v:=?_) (a':=?_) #[true,true,true,true,true,true,true,true,false,false] rfl rfl (take_ofW HT_.out HW_.out (by kernel_rfl)) (fun _ _ _ h => h) (Or.inl ⟨by rfl, ?_⟩) hHeld ?_ ?_
        rotate_left
        ·rintro w' ⟨s0,s1,s2,s3,s4,s5,s6,s7⟩
         go_simp
         with_reducible rfl
        rotate_left
        ·simp only [Act.put,sA_,s0_,s1_,i64_w,i32_w]
         rfl
        refine one_ (i:=8) (N:=some 25) #[true,true,true,true,true,true,true,true,true,false] rfl rfl (one_of HT_.out (by kernel_rfl)) (by decide) (fun K hK => ?_)
        refine goes_ Try.func49 (by kernel_rfl) rfl #[.agg #[.int .i64 ((rd_T52 l0 x5_1).f0), .string ((rd_T52 l0 x5_1).f1), .bool ((rd_T52 l0 x5_1).f2), .int .i64 ((rd_T52 l0 x5_1).f3)], .agg #[.int .i64 ((rd_T52 l1 x5_1).f0), .string ((rd_T52 l1 x5_1).f1), .bool ((rd_T52 l1 x5_1).f2), .int .i64 ((rd_T52 l1 x5_1).f3)]] (by rfl) rfl rfl (by (try simp only [List.map_toArray,List.map_cons,List.map_nil]);rfl) ?_
        with_reducible refine (laws_eqEntry.calls ((rd_T52 l0 x5_1).f0) ((rd_T52 l0 x5_1).f1) ((rd_T52 l0 x5_1).f2) ((rd_T52 l0 x5_1).f3) ((rd_T52 l1 x5_1).f0) ((rd_T52 l1 x5_1).f1) ((rd_T52 l1 x5_1).f2) ((rd_T52 l1 x5_1).f3) true _ A7.out).mono ?_
        rintro e w10 ⟨rfl,hb⟩
        refine ⟨_,rfl, ?_⟩
        have n0_:=Aside0.mk (below_step (by exact HB.out) hb)
        clear HB
        have HB:=n0_
        clear n0_
        (try clear hb)
        (skip)
        (skip)
        (skip)
        refine hK.out _ _ ⟨((HB.out.cell (World.block_lt_of_cell? w _ hw245_0)).trans hw245_0),((HB.out.cell (World.block_lt_of_cell? w _ hw245_1)).trans hw245_1),((HB.out.cell (World.block_lt_of_cell? w _ hw245_2)).trans hw245_2),((HB.out.cell (World.block_lt_of_cell? w _ hw245_3)).trans hw245_3),((HB.out.cell (World.block_lt_of_cell? w _ hw246_0)).trans hw246_0),((HB.out.cell (World.block_lt_of_cell? w _ hw246_1)).trans hw246_1),((HB.out.cell (World.block_lt_of_cell? w _ hw246_2)).trans hw246_2),((HB.out.cell (World.block_lt_of_cell? w _ hw246_3)).trans hw246_3)⟩ (fun hHeld => ?_)
        clear hK K
        refine norm_ (a':=?_) ?_ ?_
        rotate_left
        ·show Act.put _ (some 25) _ = _
         simp only [Act.put,sA_,s0_,s1_,i64_w,i32_w]
         rfl
        refine pure_ (i:=9) (N:=some 26) (v:=?_) (a':=?_) #[true,true,true,true,true,true,true,true,true,true] rfl rfl (any_of HT_.out (by kernel_rfl)) (fun _ _ _ h => h) (Or.inl ⟨by rfl, ?_⟩) ?_ ?_
        rotate_left
        ·intro w'
         go_simp
         with_reducible rfl
        rotate_left
        ·simp only [Act.put,sA_,s0_,s1_,i64_w,i32_w]
         rfl
        refine done_ (done_of HT_.out (by kernel_rfl)) ?_
        try go_wp2
        go_roundg k1
        case measure => have:=HK1.out;omega
        case rel => exact ⟨(wrap64 (x5_1 + 1)),(by rfl),H',⟨by have:=HK1.out;omega⟩,⟨by exact HB.out⟩⟩
       ·replace c8:=Bool.eq_false_iff.mpr c8
        subst c8
        have H1 : (some false) = some r:=by rw [if_neg (show ¬ (false = true) by decide)] at H;exact H
        clear H
        have H:=H1
        clear H1
        obtain rfl:=Option.some.inj H
        try go_wp2
        have n0_:=Aside0.mk (below_drew1 HB.out)
        clear HB
        have HB:=n0_
        clear n0_
        have p245 : 0 ≤ (x5_1 : Int):=of_decide_eq_true (by (with_reducible assumption))
        have q245 : x5_1 < (l0.length : Int):=of_decide_eq_true (by (with_reducible assumption))
        obtain ⟨ad245,e245,hx245_0,hx245_1,hx245_2,hx245_3⟩ := at_T52 HR0.out x5_1 p245 q245
        have hw245_3:=hx245_3
        have hw245_2:=hx245_2
        have hw245_1:=hx245_1
        have hw245_0:=hx245_0
        cases e245
        replace hx245_0:=(HB.out.cell (World.block_lt_of_cell? w _ hx245_0)).trans hx245_0
        replace hx245_1:=(HB.out.cell (World.block_lt_of_cell? w _ hx245_1)).trans hx245_1
        replace hx245_2:=(HB.out.cell (World.block_lt_of_cell? w _ hx245_2)).trans hx245_2
        replace hx245_3:=(HB.out.cell (World.block_lt_of_cell? w _ hx245_3)).trans hx245_3
        replace p245:=eq_true p245
        replace q245:=eq_true q245
        have p246 : 0 ≤ (x5_1 : Int):=of_decide_eq_true (by (with_reducible assumption))
        have q246 : x5_1 < (l1.length : Int):=of_decide_eq_true (by (with_reducible assumption))
        obtain ⟨ad246,e246,hx246_0,hx246_1,hx246_2,hx246_3⟩ := at_T52 HR1.out x5_1 p246 q246
        have hw246_3:=hx246_3
        have hw246_2:=hx246_2
        have hw246_1:=hx246_1
        have hw246_0:=hx246_0
        cases e246
        replace hx246_0:=(HB.out.cell (World.block_lt_of_cell? w _ hx246_0)).trans hx246_0
        replace hx246_1:=(HB.out.cell (World.block_lt_of_cell? w _ hx246_1)).trans hx246_1
        replace hx246_2:=(HB.out.cell (World.block_lt_of_cell? w _ hx246_2)).trans hx246_2
        replace hx246_3:=(HB.out.cell (World.block_lt_of_cell? w _ hx246_3)).trans hx246_3
        replace p246:=eq_true p246
        replace q246:=eq_true q246
        refine start_ (n:=10) (S:=fun w' => w'.cell? (ad245.add ((x5_1).toNat * 4)) = some (.int .i64 ((rd_T52 l0 x5_1).f0)) ∧ w'.cell? ⟨(ad245.add ((x5_1).toNat * 4)).block,(ad245.add ((x5_1).toNat * 4)).off + 1,none⟩ = some (.string ((rd_T52 l0 x5_1).f1)) ∧ w'.cell? ⟨(ad245.add ((x5_1).toNat * 4)).block,(ad245.add ((x5_1).toNat * 4)).off + 2,none⟩ = some (.bool ((rd_T52 l0 x5_1).f2)) ∧ w'.cell? ⟨(ad245.add ((x5_1).toNat * 4)).block,(ad245.add ((x5_1).toNat * 4)).off + 3,none⟩ = some (.int .i64 ((rd_T52 l0 x5_1).f3)) ∧ w'.cell? (ad246.add ((x5_1).toNat * 4)) = some (.int .i64 ((rd_T52 l1 x5_1).f0)) ∧ w'.cell? ⟨(ad246.add ((x5_1).toNat * 4)).block,(ad246.add ((x5_1).toNat * 4)).off + 1,none⟩ = some (.string ((rd_T52 l1 x5_1).f1)) ∧ w'.cell? ⟨(ad246.add ((x5_1).toNat * 4)).block,(ad246.add ((x5_1).toNat * 4)).off + 2,none⟩ = some (.bool ((rd_T52 l1 x5_1).f2)) ∧ w'.cell? ⟨(ad246.add ((x5_1).toNat * 4)).block,(ad246.add ((x5_1).toNat * 4)).off + 3,none⟩ = some (.int .i64 ((rd_T52 l1 x5_1).f3))) (ds := []) #[false,false,false,false,false,false,false,false,false,false] (by kernel_rfl) rfl rfl ⟨((HB.out.cell (World.block_lt_of_cell? w _ hw245_0)).trans hw245_0),((HB.out.cell (World.block_lt_of_cell? w _ hw245_1)).trans hw245_1),((HB.out.cell (World.block_lt_of_cell? w _ hw245_2)).trans hw245_2),((HB.out.cell (World.block_lt_of_cell? w _ hw245_3)).trans hw245_3),((HB.out.cell (World.block_lt_of_cell? w _ hw246_0)).trans hw246_0),((HB.out.cell (World.block_lt_of_cell? w _ hw246_1)).trans hw246_1),((HB.out.cell (World.block_lt_of_cell? w _ hw246_2)).trans hw246_2),((HB.out.cell (World.block_lt_of_cell? w _ hw246_3)).trans hw246_3)⟩ (fun hHeld => ?_);refine with_tabW laws_eqEntryS.tab6 laws_eqEntryS.bits6 (fun HT_ HW_ => ?_)
        generalize wr.drew = w11 at HB hx245_0 hx245_1 hx245_2 hx245_3 hx246_0 hx246_1 hx246_2 hx246_3 hHeld ⊢
        refine pure_ (i:=0) (N:=some 17) (v:=?_) (a':=?_) #[true,false,false,false,false,false,false,false,false,false] rfl rfl (any_of HT_.out (by kernel_rfl)) (fun _ _ _ h => h) (Or.inl ⟨by rfl, ?_⟩) ?_ ?_
        rotate_left
        ·intro w'
         go_simp
         with_reducible rfl
        rotate_left
        ·simp only [Act.put,sA_,s0_,s1_,i64_w,i32_w]
         rfl
        refine pure_ (i:=1) (N:=some 18) (v:=?_) (a':=?_) #[true,true,false,false,false,false,false,false,false,false] rfl rfl (any_of HT_.out (by kernel_rfl)) (fun _ _ _ h => h) (Or.inl ⟨by rfl, ?_⟩) ?_ ?_
        rotate_left
        ·intro w'
         go_simp
         with_reducible rfl
        rotate_left
        ·simp only [Act.put,sA_,s0_,s1_,i64_w,i32_w]
         rfl
        refine pure_ (i:=2) (N:=some 19) (v:=?_) (a':=?_) #[true,true,true,false,false,false,false,false,false,false] rfl rfl (any_of HT_.out (by kernel_rfl)) (fun _ _ _ h => h) (Or.inl ⟨by rfl, ?_⟩) ?_ ?_
        rotate_left
        ·intro w'
         go_simp
         with_reducible rfl
        rotate_left
        ·simp only [Act.put,sA_,s0_,s1_,i64_w,i32_w]
         rfl
        refine pure_ (i:=4) (N:=some 21) (v:=?_) (a':=?_) #[true,true,true,false,true,false,false,false,false,false] rfl rfl (any_of HT_.out (by kernel_rfl)) (fun _ _ _ h => h) (Or.inl ⟨by rfl, ?_⟩) ?_ ?_
        rotate_left
        ·intro w'
         go_simp
         with_reducible rfl
        rotate_left
        ·simp only [Act.put,sA_,s0_,s1_,i64_w,i32_w]
         rfl
        refine pure_ (i:=5) (N:=some 22) (v:=?_) (a':=?_) #[true,true,true,false,true,true,false,false,false,false] rfl rfl (any_of HT_.out (by kernel_rfl)) (fun _ _ _ h => h) (Or.inl ⟨by rfl, ?_⟩) ?_ ?_
        rotate_left
        ·intro w'
         go_simp
         with_reducible rfl
        rotate_left
        ·simp only [Act.put,sA_,s0_,s1_,i64_w,i32_w]
         rfl
        refine pure_ (i:=6) (N:=some 23) (v:=?_) (a':=?_) #[true,true,true,false,true,true,true,false,false,false] rfl rfl (any_of HT_.out (by kernel_rfl)) (fun _ _ _ h => h) (Or.inl ⟨by rfl, ?_⟩) ?_ ?_
        rotate_left
        ·intro w'
         go_simp
         with_reducible rfl
        rotate_left
        ·simp only [Act.put,sA_,s0_,s1_,i64_w,i32_w]
         rfl
        refine take_ (i:=3) (N:=some 20) (v:=?_) (a':=?_) #[true,true,true,true,true,true,true,false,false,false] rfl rfl (take_ofW HT_.out HW_.out (by kernel_rfl)) (fun _ _ _ h => h) (Or.inl ⟨by rfl, ?_⟩) hHeld ?_ ?_
        rotate_left
        ·rintro w' ⟨s0,s1,s2,s3,s4,s5,s6,s7⟩
         go_simp
         with_reducible rfl
        rotate_left
        ·simp only [Act.put,sA_,s0_,s1_,i64_w,i32_w]
         rfl
        refine take_ (i:=7) (N:=some 24) (v:=?_) (a':=?_) #[true,true,true,true,true,true,true,true,false,false] rfl rfl (take_ofW HT_.out HW_.out (by kernel_rfl)) (fun _ _ _ h => h) (Or.inl ⟨by rfl, ?_⟩) hHeld ?_ ?_
        rotate_left
        ·rintro w' ⟨s0,s1,s2,s3,s4,s5,s6,s7⟩
         go_simp
         with_reducible rfl
        rotate_left
        ·simp only [Act.put,sA_,s0_,s1_,i64_w,i32_w]
         rfl
        refine one_ (i:=8) (N:=some 25) #[true,true,true,true,true,true,true,true,true,false] rfl rfl (one_of HT_.out (by kernel_rfl)) (by decide) (fun K hK => ?_)
        refine goes_ Try.func49 (by kernel_rfl) rfl #[.agg #[.int .i64 ((rd_T52 l0 x5_1).f0), .string ((rd_T52 l0 x5_1).f1), .bool ((rd_T52 l0 x5_1).f2), .int .i64 ((rd_T52 l0 x5_1).f3)], .agg #[.int .i64 ((rd_T52 l1 x5_1).f0), .string ((rd_T52 l1 x5_1).f1), .bool ((rd_T52 l1 x5_1).f2), .int .i64 ((rd_T52 l1 x5_1).f3)]] (by rfl) rfl rfl (by (try simp only [List.map_toArray,List.map_cons,List.map_nil]);rfl) ?_
        with_reducible refine (laws_eqEntry.calls ((rd_T52 l0 x5_1).f0) ((rd_T52 l0 x5_1).f1) ((rd_T52 l0 x5_1).f2) ((rd_T52 l0 x5_1).f3) ((rd_T52 l1 x5_1).f0) ((rd_T52 l1 x5_1).f1) ((rd_T52 l1 x5_1).f2) ((rd_T52 l1 x5_1).f3) false _ A7.out).mono ?_
        rintro e w12 ⟨rfl,hb⟩
        refine ⟨_,rfl, ?_⟩
        have n0_:=Aside0.mk (below_step (by exact HB.out) hb)
        clear HB
        have HB:=n0_
        clear n0_
        (try clear hb)
        (skip)
        (skip)
        (skip)
        refine hK.out _ _ ⟨((HB.out.cell (World.block_lt_of_cell? w _ hw245_0)).trans hw245_0),((HB.out.cell (World.block_lt_of_cell? w _ hw245_1)).trans hw245_1),((HB.out.cell (World.block_lt_of_cell? w _ hw245_2)).trans hw245_2),((HB.out.cell (World.block_lt_of_cell? w _ hw245_3)).trans hw245_3),((HB.out.cell (World.block_lt_of_cell? w _ hw246_0)).trans hw246_0),((HB.out.cell (World.block_lt_of_cell? w _ hw246_1)).trans hw246_1),((HB.out.cell (World.block_lt_of_cell? w _ hw246_2)).trans hw246_2),((HB.out.cell (World.block_lt_of_cell? w _ hw246_3)).trans hw246_3)⟩ (fun hHeld => ?_)
        clear hK K
        refine norm_ (a':=?_) ?_ ?_
        rotate_left
        ·show Act.put _ (some 25) _ = _
         simp only [Act.put,sA_,s0_,s1_,i64_w,i32_w]
         rfl
        refine pure_ (i:=9) (N:=some 26) (v:=?_) (a':=?_) #[true,true,true,true,true,true,true,true,true,true] rfl rfl (any_of HT_.out (by kernel_rfl)) (fun _ _ _ h => h) (Or.inl ⟨by rfl, ?_⟩) ?_ ?_
        rotate_left
        ·intro w'
         go_simp
         with_reducible rfl
        rotate_left
        ·simp only [Act.put,sA_,s0_,s1_,i64_w,i32_w]
         rfl
        refine done_ (done_of HT_.out (by kernel_rfl)) ?_
        try go_wp2
        go_ret
        exact ⟨by rfl,by exact HB.out⟩
      ·rw [if_neg c6] at H
       exact absurd H (by simp)
     ·rw [if_neg c5] at H
      exact absurd H (by simp)
    ·rw [if_neg c4] at H
     have c4b0 : decide (x5_1 < (l0.length : Int)) = false:=decide_eq_false c4
     clear c4
     obtain rfl:=Option.some.inj H
     go_wp2
     go_ret
     exact ⟨by rfl,by exact HB.out⟩
 ·rw [if_neg c3] at H
  have c3b0 : ((l0.length : Int) == (l1.length : Int)) = false:=beq_eq_false_iff_ne.mpr c3
  have c3b1 : ((l0.length : Int) != (l1.length : Int)) = true:=bne_iff_ne.mpr c3
  have c3b2 : (l0.length == l1.length) = false:=by (simp at c3 ⊢;omega)
  obtain rfl:=Option.some.inj H
  go_enter Try.func24,Try.ntmps24
  go_wp2
  go_ret
  exact ⟨by rfl,by exact HB.out⟩

/-! ### laws_markText: function 50 -/
def laws_markText.l0 : Nat → Int → ByteArray → Option (ByteArray)
 | 0,_,_ => none
 | k + 1,x0,x3 => if x0 > 0 then ((some (([(wrap64 (48 + (Int.tmod x0 10))) % 256] : List Int) : List Int)).bind fun y248 => (if (strOfNums y248).size + x3.size ≤ 9223372036854775807 then (laws_markText.l0 k (wrap64 (Int.tdiv x0 10)) ((strOfNums y248) ++ x3)) else (none))) else (if 1 + x3.size ≤ 9223372036854775807 then (some ((⟨#[109]⟩ : ByteArray) ++ x3)) else (none))
def laws_markText.f (k : Nat) (a0 : Int) : Option (ByteArray):=if a0 ≤ 0 then (some (⟨#[109,48]⟩ : ByteArray)) else (laws_markText.l0 k a0 (⟨#[]⟩ : ByteArray))
theorem laws_markText.mono_l : ∀ k,(∀ y0 y1,LeO (laws_markText.l0 k y0 y1) (laws_markText.l0 (k + 1) y0 y1))
 | 0 => fun _ _ r h => by simp [laws_markText.l0] at h
 | k + 1 => by
  have ih0:=laws_markText.mono_l k
  ·intro y0 y1
   unfold laws_markText.l0
   repeat' first
   | (with_reducible exact ih0 _ _)
   | (with_reducible exact LeO.refl _)
   | (with_reducible exact LeO.none _)
   | (with_reducible refine LeO.ite ?_ ?_)
   | (with_reducible refine LeO.bind ?_ (fun _ => ?_))
   | exact ih0 _ _
   | exact LeO.none _
   | refine LeO.ite ?_ ?_
   | refine LeO.bind ?_ (fun _ => ?_)
theorem laws_markText.mono : ∀ a0 k,LeO (laws_markText.f k a0) (laws_markText.f (k + 1) a0):=by
 intro a0 k
 have ih0:=laws_markText.mono_l k
 unfold laws_markText.f
 repeat' first
   | (with_reducible exact ih0 _ _)
   | (with_reducible exact LeO.refl _)
   | (with_reducible exact LeO.none _)
   | (with_reducible refine LeO.ite ?_ ?_)
   | (with_reducible refine LeO.bind ?_ (fun _ => ?_))
   | exact ih0 _ _
   | exact LeO.none _
   | refine LeO.ite ?_ ?_
   | refine LeO.bind ?_ (fun _ => ?_)
set_option maxHeartbeats 8000000 in
set_option maxRecDepth 100000 in
theorem laws_markText.calls (k : Nat) (a0 : Int) (r : ByteArray) (w : World) (h : laws_markText.f k a0 = some r) :
  Calls Try.prog 50 #[.int .i64 a0] w fun e w' => e = .returned (.string r) ∧ Below w.heap.size w w':=by
 have HB:=Aside0.mk (Below.refl w.heap.size w)
 have H : (if a0 ≤ 0 then (some (⟨#[109,48]⟩ : ByteArray)) else (laws_markText.l0 k a0 (⟨#[]⟩ : ByteArray))) = some r:=h
 clear h
 by_cases c2 : a0 ≤ 0
 ·rw [if_pos c2] at H
  have c2b0 : decide (a0 ≤ 0) = true:=decide_eq_true c2
  clear c2
  obtain rfl:=Option.some.inj H
  go_enter Try.func50,Try.ntmps50
  go_wp2
  go_ret
  exact ⟨by rfl,by exact HB.out⟩
 ·rw [if_neg c2] at H
  have c2b0 : decide (a0 ≤ 0) = false:=decide_eq_false c2
  clear c2
  have H':=Aside0.mk H
  clear H
  go_enter Try.func50,Try.ntmps50
  go_wp2
  (skip)
  go_loopg [0,3] k (fun kq v0 v3 w' => ∃ (x0_1 : Int) (x3_1 : ByteArray),v0 = .int .i64 x0_1 ∧ v3 = .string x3_1 ∧ Aside0 (laws_markText.l0 kq x0_1 x3_1 = some r) ∧ Aside0 (kq ≤ k) ∧ Aside0 (Below w.heap.size w w'))
  case atStart => exact ⟨(a0),((⟨#[]⟩ : ByteArray)),(by rfl),(by rfl),H',⟨Nat.le_refl _⟩,⟨by exact HB.out⟩⟩
  case round =>
   clear H'
   try clear c2
   try clear c2b0
   try clear p2
   obtain ⟨x0_1,x3_1,rfl,rfl,HA,HK1,HB⟩ := hrel
   cases gk with
   | zero => exact absurd HA.out (by simp [laws_markText.l0])
   | succ k1 =>
    have H:=HA.out
    clear HA
    simp only [laws_markText.l0] at H
    by_cases c3 : x0_1 > 0
    ·rw [if_pos c3] at H
     have c3b0 : decide (0 < x0_1) = true:=decide_eq_true c3
     clear c3
     obtain ⟨y248,hy248⟩ : ∃ y_ : List Int,y_ = (([(wrap64 (48 + (Int.tmod x0_1 10))) % 256] : List Int)):=⟨_,rfl⟩
     replace H : (if (strOfNums y248).size + x3_1.size ≤ 9223372036854775807 then (laws_markText.l0 k1 (wrap64 (Int.tdiv x0_1 10)) ((strOfNums y248) ++ x3_1)) else (none)) = some r:=by (have H2_:=(Option.bind_some _ _).symm.trans H;rw [hy248];with_reducible exact H2_)
     have Ny248:=Aside0.mk hy248
     clear hy248
     by_cases c4 : (strOfNums y248).size + x3_1.size ≤ 9223372036854775807
     ·rw [if_pos c4] at H
      have c4b0:=eq_true c4
      have c4b1 : decide ((strOfNums y248).size + x3_1.size ≤ 9223372036854775807) = true:=decide_eq_true c4
      try have c4b2 : (9223372036854775807 < (strOfNums y248).size + x3_1.size) = False:=eq_false (Nat.not_lt.2 c4)
      have H':=Aside0.mk H
      clear H
      go_wp2_with (((with_reducible refine gate_dst (N:=12) rfl ?_);refine Kd.R_lit (Kd.int .u8) _ 5 ?hg (N:=12) ?hd (xs:=([(wrap64 (48 + (Int.tmod x0_1 10))) % 256] : List Int)) (inner := [.int .u8 ((wrap64 (48 + (Int.tmod x0_1 10))) % 256)]) (ok:=fun _ => True) (okp:=fun _ => True) ?hr ?hp (fun _ hk => hk) trivial (Below.refl _ _) (Nat.le_refl _) (by simp) ?_;(case hd => rfl);(case hg => rfl);(case hr => (go_simp;done));(case hp => exact (Reps.one (show Kd.M (Kd.int .u8) _ _ _ ((wrap64 (48 + (Int.tmod x0_1 10))) % 256) [.int .u8 ((wrap64 (48 + (Int.tmod x0_1 10))) % 256)] from rfl) (Reps.none _ _)));intro v249 w5 ho6 hb hg_ hnew_;clear hg_ hnew_;(rw [← Ny248.out] at ho6);have n0_:=Aside0.mk (Kd.R_lower ho6 (below_size (by exact HB.out)));have n1_:=Aside0.mk (below_step (by exact HB.out) hb);clear HB;have HO250:=n0_;have HB:=n1_;clear n0_ n1_;clear hb ho6;have hcv7:=own_string (P:=Try.prog) Try.underlying22 Try.underlying5 Try.underlying9 (Kd.own_of_R HO250.out)))
      go_roundg k1
      case measure => have:=HK1.out;omega
      case rel => exact ⟨(wrap64 (Int.tdiv x0_1 10)),((strOfNums y248) ++ x3_1),(by rfl),(by rfl),H',⟨by have:=HK1.out;omega⟩,⟨by exact HB.out⟩⟩
     ·rw [if_neg c4] at H
      exact absurd H (by simp)
    ·rw [if_neg c3] at H
     have c3b0 : decide (0 < x0_1) = false:=decide_eq_false c3
     clear c3
     by_cases c8 : 1 + x3_1.size ≤ 9223372036854775807
     ·rw [if_pos c8] at H
      have c8b0:=eq_true c8
      have c8b1 : decide (1 + x3_1.size ≤ 9223372036854775807) = true:=decide_eq_true c8
      try have c8b2 : (9223372036854775807 < 1 + x3_1.size) = False:=eq_false (Nat.not_lt.2 c8)
      obtain rfl:=Option.some.inj H
      go_wp2
      go_ret
      exact ⟨by rfl,by exact HB.out⟩
     ·rw [if_neg c8] at H
      exact absurd H (by simp)

/-! ### laws_markEntryS: function 25 -/
def laws_markEntryS.l0 : Nat → List (S52) → Int → Int → Option (Int × (List (S52)))
 | 0,_,_,_ => none
 | k + 1,x0,x1,x5 => if x5 < (x0.length : Int) then (if 0 ≤ x5 then ((some (x0.set (x5 : Int).toNat (⟨x1,(rd_T52 x0 x5).f1,(rd_T52 x0 x5).f2,(rd_T52 x0 x5).f3⟩ : S52) : List (S52))).bind fun y251 => ((laws_markText.f k (wrap64 (x1 + 1))).bind fun t252 => ((some (y251.set (x5 : Int).toNat (⟨(rd_T52 y251 x5).f0,t252,(rd_T52 y251 x5).f2,(rd_T52 y251 x5).f3⟩ : S52) : List (S52))).bind fun y253 => ((some (y253.set (x5 : Int).toNat (⟨(rd_T52 y253 x5).f0,(rd_T52 y253 x5).f1,((Int.tmod (wrap64 ((wrap64 (x1 + 1)) + 1)) 3) == 0),(rd_T52 y253 x5).f3⟩ : S52) : List (S52))).bind fun y254 => (laws_markEntryS.l0 k (y254.set (x5 : Int).toNat (⟨(rd_T52 y254 x5).f0,(rd_T52 y254 x5).f1,(rd_T52 y254 x5).f2,wrap64 ((wrap64 ((wrap64 (x1 + 1)) + 1)) + 1)⟩ : S52)) (wrap64 ((wrap64 ((wrap64 ((wrap64 (x1 + 1)) + 1)) + 1)) + 1)) (wrap64 (x5 + 1))))))) else (none)) else (some (x1,x0))
def laws_markEntryS.f (k : Nat) (l0 : List (S52)) (a1 : Int) : Option (Int × (List (S52))):=laws_markEntryS.l0 k l0 a1 0
theorem laws_markEntryS.mono_l : ∀ k,(∀ y0 y1 y2,LeO (laws_markEntryS.l0 k y0 y1 y2) (laws_markEntryS.l0 (k + 1) y0 y1 y2))
 | 0 => fun _ _ _ r h => by simp [laws_markEntryS.l0] at h
 | k + 1 => by
  have ih0:=laws_markEntryS.mono_l k
  ·intro y0 y1 y2
   unfold laws_markEntryS.l0
   repeat' first
   | (with_reducible exact ih0 _ _ _)
   | (with_reducible exact laws_markText.mono _ _)
   | (with_reducible exact LeO.refl _)
   | (with_reducible exact LeO.none _)
   | (with_reducible refine LeO.ite ?_ ?_)
   | (with_reducible refine LeO.bind ?_ (fun _ => ?_))
   | exact ih0 _ _ _
   | exact laws_markText.mono _ _
   | exact LeO.none _
   | refine LeO.ite ?_ ?_
   | refine LeO.bind ?_ (fun _ => ?_)
theorem laws_markEntryS.mono : ∀ a0 a1 k,LeO (laws_markEntryS.f k a0 a1) (laws_markEntryS.f (k + 1) a0 a1):=by
 intro a0 a1 k
 have ih0:=laws_markEntryS.mono_l k
 unfold laws_markEntryS.f
 repeat' first
   | (with_reducible exact ih0 _ _ _)
   | (with_reducible exact laws_markText.mono _ _)
   | (with_reducible exact LeO.refl _)
   | (with_reducible exact LeO.none _)
   | (with_reducible refine LeO.ite ?_ ?_)
   | (with_reducible refine LeO.bind ?_ (fun _ => ?_))
   | exact ih0 _ _ _
   | exact laws_markText.mono _ _
   | exact LeO.none _
   | refine LeO.ite ?_ ?_
   | refine LeO.bind ?_ (fun _ => ?_)
set_option maxHeartbeats 8000000 in
set_option maxRecDepth 100000 in
theorem laws_markEntryS.calls (k : Nat) (P0_ : Nat → Prop) (u9000_ : Value) (l0 : List (S52)) (a1 : Int) (r1 : Int) (r2 : List (S52)) (w0 w : World) (hB : Below w0.heap.size w0 w) (ho0 : Kd.R k52 52 w w0.heap.size P0_ u9000_ l0) (h : laws_markEntryS.f k l0 a1 = some (r1,r2)) :
  Calls Try.prog 25 #[u9000_, .int .i64 a1] w fun e w' => e = .returned (.int .i64 r1) ∧ Kd.R k52 52 w' w0.heap.size (fun k_ => (P0_ k_ ∨ w.heap.size ≤ k_)) u9000_ r2 ∧ Below w0.heap.size w0 w' ∧ Kept w w' (fun k_ => P0_ k_):=by
 have HO0:=Aside0.mk (show Kd.R k52 52 w w0.heap.size (fun k_ => (P0_ k_ ∨ w.heap.size ≤ k_)) u9000_ l0 from Kd.R_mono ho0 (fun k_ hk => (.inl hk)))
 have HK:=Aside0.mk (Kept.refl w (fun k_ => P0_ k_))
 have HW0:=Aside0.mk hB.size
 have HB:=Aside0.mk hB
 clear hB
 have H : (laws_markEntryS.l0 k l0 a1 0) = some (r1,r2):=h
 clear h
 have H':=Aside0.mk H
 clear H
 go_enter Try.func25,Try.ntmps25
 go_wp2
 go_loopg [1,5] k (fun kq v1 v5 w' => ∃ (x0_1 : List (S52)) (x1_1 : Int) (x5_1 : Int),v1 = .int .i64 x1_1 ∧ v5 = .int .i64 x5_1 ∧ Aside0 (laws_markEntryS.l0 kq x0_1 x1_1 x5_1 = some (r1,r2)) ∧ Aside0 (kq ≤ k) ∧ Aside0 (Kd.R k52 52 w' w0.heap.size (fun k_ => (P0_ k_ ∨ w.heap.size ≤ k_)) u9000_ x0_1) ∧ Aside0 (Kept w w' (fun k_ => P0_ k_)) ∧ Aside0 (Below w0.heap.size w0 w'))
 case atStart => exact ⟨(l0),(a1),(0),(by rfl),(by rfl),H',⟨Nat.le_refl _⟩,⟨by exact HO0.out⟩,⟨by exact HK.out⟩,⟨by exact HB.out⟩⟩
 case round =>
  clear H'
  try clear c2
  try clear p2
  obtain ⟨x0_1,x1_1,x5_1,rfl,rfl,HA,HK1,HO_0,HK,HB⟩ := hrel
  cases gk with
  | zero => exact absurd HA.out (by simp [laws_markEntryS.l0])
  | succ k1 =>
   have H:=HA.out
   clear HA
   simp only [laws_markEntryS.l0] at H
   by_cases c3 : x5_1 < (x0_1.length : Int)
   ·rw [if_pos c3] at H
    have c3b0 : decide (x5_1 < (x0_1.length : Int)) = true:=decide_eq_true c3
    clear c3
    by_cases c4 : 0 ≤ x5_1
    ·rw [if_pos c4] at H
     have c4b0 : decide (0 ≤ x5_1) = true:=decide_eq_true c4
     clear c4
     obtain ⟨y251,hy251⟩ : ∃ y_ : List (S52),y_ = (x0_1.set (x5_1 : Int).toNat (⟨x1_1,(rd_T52 x0_1 x5_1).f1,(rd_T52 x0_1 x5_1).f2,(rd_T52 x0_1 x5_1).f3⟩ : S52)):=⟨_,rfl⟩
     replace H : ((laws_markText.f k1 (wrap64 (x1_1 + 1))).bind fun t252 => ((some (y251.set (x5_1 : Int).toNat (⟨(rd_T52 y251 x5_1).f0,t252,(rd_T52 y251 x5_1).f2,(rd_T52 y251 x5_1).f3⟩ : S52) : List (S52))).bind fun y253 => ((some (y253.set (x5_1 : Int).toNat (⟨(rd_T52 y253 x5_1).f0,(rd_T52 y253 x5_1).f1,((Int.tmod (wrap64 ((wrap64 (x1_1 + 1)) + 1)) 3) == 0),(rd_T52 y253 x5_1).f3⟩ : S52) : List (S52))).bind fun y254 => (laws_markEntryS.l0 k1 (y254.set (x5_1 : Int).toNat (⟨(rd_T52 y254 x5_1).f0,(rd_T52 y254 x5_1).f1,(rd_T52 y254 x5_1).f2,wrap64 ((wrap64 ((wrap64 (x1_1 + 1)) + 1)) + 1)⟩ : S52)) (wrap64 ((wrap64 ((wrap64 ((wrap64 (x1_1 + 1)) + 1)) + 1)) + 1)) (wrap64 (x5_1 + 1)))))) = some (r1,r2):=by (have H2_:=(Option.bind_some _ _).symm.trans H;rw [hy251];with_reducible exact H2_)
     have Ny251:=Aside0.mk hy251
     clear hy251
     replace H:=Option.bind_eq_some_iff.mp H
     obtain ⟨t252,A60,H⟩ := H
     replace H : ((some (y251.set (x5_1 : Int).toNat (⟨(rd_T52 y251 x5_1).f0,t252,(rd_T52 y251 x5_1).f2,(rd_T52 y251 x5_1).f3⟩ : S52) : List (S52))).bind fun y253 => ((some (y253.set (x5_1 : Int).toNat (⟨(rd_T52 y253 x5_1).f0,(rd_T52 y253 x5_1).f1,((Int.tmod (wrap64 ((wrap64 (x1_1 + 1)) + 1)) 3) == 0),(rd_T52 y253 x5_1).f3⟩ : S52) : List (S52))).bind fun y254 => (laws_markEntryS.l0 k1 (y254.set (x5_1 : Int).toNat (⟨(rd_T52 y254 x5_1).f0,(rd_T52 y254 x5_1).f1,(rd_T52 y254 x5_1).f2,wrap64 ((wrap64 ((wrap64 (x1_1 + 1)) + 1)) + 1)⟩ : S52)) (wrap64 ((wrap64 ((wrap64 ((wrap64 (x1_1 + 1)) + 1)) + 1)) + 1)) (wrap64 (x5_1 + 1))))) = some (r1,r2):=H
     have A6:=Aside0.mk A60
     clear A60
     obtain ⟨y253,hy253⟩ : ∃ y_ : List (S52),y_ = (y251.set (x5_1 : Int).toNat (⟨(rd_T52 y251 x5_1).f0,t252,(rd_T52 y251 x5_1).f2,(rd_T52 y251 x5_1).f3⟩ : S52)):=⟨_,rfl⟩
     replace H : ((some (y253.set (x5_1 : Int).toNat (⟨(rd_T52 y253 x5_1).f0,(rd_T52 y253 x5_1).f1,((Int.tmod (wrap64 ((wrap64 (x1_1 + 1)) + 1)) 3) == 0),(rd_T52 y253 x5_1).f3⟩ : S52) : List (S52))).bind fun y254 => (laws_markEntryS.l0 k1 (y254.set (x5_1 : Int).toNat (⟨(rd_T52 y254 x5_1).f0,(rd_T52 y254 x5_1).f1,(rd_T52 y254 x5_1).f2,wrap64 ((wrap64 ((wrap64 (x1_1 + 1)) + 1)) + 1)⟩ : S52)) (wrap64 ((wrap64 ((wrap64 ((wrap64 (x1_1 + 1)) + 1)) + 1)) + 1)) (wrap64 (x5_1 + 1)))) = some (r1,r2):=by (have H2_:=(Option.bind_some _ _).symm.trans H;rw [hy253];with_reducible exact H2_)
     have Ny253:=Aside0.mk hy253
     clear hy253
     obtain ⟨y254,hy254⟩ : ∃ y_ : List (S52),y_ = (y253.set (x5_1 : Int).toNat (⟨(rd_T52 y253 x5_1).f0,(rd_T52 y253 x5_1).f1,((Int.tmod (wrap64 ((wrap64 (x1_1 + 1)) + 1)) 3) == 0),(rd_T52 y253 x5_1).f3⟩ : S52)):=⟨_,rfl⟩
     replace H : (laws_markEntryS.l0 k1 (y254.set (x5_1 : Int).toNat (⟨(rd_T52 y254 x5_1).f0,(rd_T52 y254 x5_1).f1,(rd_T52 y254 x5_1).f2,wrap64 ((wrap64 ((wrap64 (x1_1 + 1)) + 1)) + 1)⟩ : S52)) (wrap64 ((wrap64 ((wrap64 ((wrap64 (x1_1 + 1)) + 1)) + 1)) + 1)) (wrap64 (x5_1 + 1))) = some (r1,r2):=by (have H2_:=(Option.bind_some _ _).symm.trans H;rw [hy254];with_reducible exact H2_)
     have Ny254:=Aside0.mk hy254
     clear hy254
     obtain ⟨y255,hy255⟩ : ∃ y_ : List (S52),y_ = (y254.set (x5_1 : Int).toNat (⟨(rd_T52 y254 x5_1).f0,(rd_T52 y254 x5_1).f1,(rd_T52 y254 x5_1).f2,wrap64 ((wrap64 ((wrap64 (x1_1 + 1)) + 1)) + 1)⟩ : S52)):=⟨_,rfl⟩
     replace H : (laws_markEntryS.l0 k1 y255 (wrap64 ((wrap64 ((wrap64 ((wrap64 (x1_1 + 1)) + 1)) + 1)) + 1)) (wrap64 (x5_1 + 1))) = some (r1,r2):=by (rw [hy255];with_reducible exact H)
     have Ny255:=Aside0.mk hy255
     clear hy255
     have H':=Aside0.mk H
     clear H
     obtain ⟨Ao10,co10,eo10⟩ := Kd.R_slice HO_0.out
     subst eo10
     have p5 : 0 ≤ (x5_1 : Int):=of_decide_eq_true (by (with_reducible assumption))
     have q5 : (x5_1 : Int) < ((x0_1.length : Int) : Int):=of_decide_eq_true (by (with_reducible assumption))
     obtain ⟨go5,co5,eo5,gb5,gl5,cl5,HG5⟩ := Kd.R_form HO_0.out (by omega)
     (cases eo5)
     have GB5:=Aside0.mk gb5
     have GG5:=Aside0.mk HG5
     clear gb5 gl5 HG5
     have HMgo5:=Aside0.mk (show (P0_ go5 ∨ w.heap.size ≤ go5) from (HO_0.out.1 _ rfl))
     obtain ⟨ce5,hcl5,hM5,hcc5,hfr5⟩ := Kd.R_elem HO_0.out z52 (x5_1 : Int) p5 q5
     obtain rfl:=k52_openM hM5
     have hx5_0 : wr.cell? ⟨go5,(x5_1 : Int).toNat * 4,none⟩ = some (.int .i64 ((rd_T52 x0_1 x5_1).f0)):=hcc5 0 _ rfl
     have hx5_1 : wr.cell? ⟨go5,(x5_1 : Int).toNat * 4 + 1,none⟩ = some (.string ((rd_T52 x0_1 x5_1).f1)):=hcc5 1 _ rfl
     have hx5_2 : wr.cell? ⟨go5,(x5_1 : Int).toNat * 4 + 2,none⟩ = some (.bool ((rd_T52 x0_1 x5_1).f2)):=hcc5 2 _ rfl
     have hx5_3 : wr.cell? ⟨go5,(x5_1 : Int).toNat * 4 + 3,none⟩ = some (.int .i64 ((rd_T52 x0_1 x5_1).f3)):=hcc5 3 _ rfl
     have hf5_0 : wr.frozen? ⟨go5,(x5_1 : Int).toNat * 4,none⟩ = false:=hfr5 0
     have hf5_1 : wr.frozen? ⟨go5,(x5_1 : Int).toNat * 4 + 1,none⟩ = false:=hfr5 1
     have hf5_2 : wr.frozen? ⟨go5,(x5_1 : Int).toNat * 4 + 2,none⟩ = false:=hfr5 2
     have hf5_3 : wr.frozen? ⟨go5,(x5_1 : Int).toNat * 4 + 3,none⟩ = false:=hfr5 3
     clear hcl5 hcc5 hfr5;(try clear hM5)
     replace p5:=eq_true p5
     replace q5:=eq_true q5
     have HX11:=Aside0.mk (show Kd.R k52 52 wr w0.heap.size (fun k_ => (P0_ k_ ∨ w.heap.size ≤ k_)) (.slice (some ⟨go5,0,none⟩) x0_1.length co10) x0_1 from (by exact HO_0.out))
     obtain ⟨ce11,hcl11,hM11,hcc11,hfr11⟩ := Kd.R_elem HX11.out z52 (x5_1 : Int) (of_decide_eq_true (by (with_reducible assumption))) (by have h_ : (x5_1 : Int) < ((x0_1.length : Int) : Int):=of_decide_eq_true (by (with_reducible assumption));exact h_)
     obtain rfl:=k52_openM hM11
     have HP11:=Kd.R_seg HX11.out (x5_1 : Int) (of_decide_eq_true (by (with_reducible assumption))) (by have h_ : (x5_1 : Int) < ((x0_1.length : Int) : Int):=of_decide_eq_true (by (with_reducible assumption));exact h_) (seg := [.int .i64 x1_1]) (j:=0) hcl11 hcc11 (show 1 ≤ 4 from by decide) (x':=(⟨x1_1,(rd_T52 x0_1 x5_1).f1,(rd_T52 x0_1 x5_1).f2,(rd_T52 x0_1 x5_1).f3⟩ : S52)) (k52_mkM _ _ _ (⟨x1_1,(rd_T52 x0_1 x5_1).f1,(rd_T52 x0_1 x5_1).f2,(rd_T52 x0_1 x5_1).f3⟩ : S52) ) (fun _ hk => hk)
     have hx11_0:=hcc11 0 _ rfl
     (try simp only [show (k52).sz = 4 from rfl,Nat.mul_one,Nat.add_zero] at hx11_0)
     have hf11_0:=hfr11 0
     (try simp only [show (k52).sz = 4 from rfl,Nat.mul_one,Nat.add_zero] at hf11_0)
     clear hcl11 hcc11 hfr11;(try clear hM11)
     go_wp2_with (first | ((with_reducible refine gate_store (t:=3) (p:=16) rfl ?_);refine store_event (t:=3) (p:=16) (v:=?vo_w12) (w1:=(wr.setCell ⟨go5,(x5_1 : Int).toNat * 4,none⟩ (.int .i64 x1_1))) ?hg ?ho ?hn ?hr ?_;(case ho => rfl);(case hg => rfl);(case hn => rfl);(case hr => (go_simp;done));intro w12 hw;have hg : wr.grownBy w12 (some go5):=(by rw [hw];exact HP11.2);have hp_ : Kd.R k52 52 w12 w0.heap.size (fun k_ => (P0_ k_ ∨ w.heap.size ≤ k_)) (.slice (some ⟨go5,0,none⟩) x0_1.length co10) y251:=(by rw [hw,Ny251.out];exact HP11.1);clear HP11;have n0_:=Aside0.mk (hp_);have n1_:=Aside0.mk ((by rw [hw];exact below_set (HB.out) GB5.out : Below w0.heap.size w0 w12));have n2_:=Aside0.mk (Kept.of_grown (S:=(fun k_ => P0_ k_)) hg (by exact HK.out) (fun k_ e_ => (HO_0.out.1 k_ e_)));clear HO_0;clear HB;clear HK;have HO_0:=n0_;have HB:=n1_;have HK:=n2_;clear n0_ n1_ n2_;clear hg hw hp_) | ((with_reducible refine gate_callee (f:=50) rfl ?_);refine goesL_ (some 22) rfl rfl Try.func50 (by kernel_rfl) rfl #[.int .i64 (wrap64 (x1_1 + 1))] rfl (by (try simp only [List.map_toArray,List.map_cons,List.map_nil]);rfl) ?_;(with_reducible refine (laws_markText.calls k1 (wrap64 (x1_1 + 1)) t252 _ A6.out).mono ?_);rintro e w13 ⟨rfl,hb⟩;refine ⟨_,rfl, ?_⟩;have n0_:=Aside0.mk (Kd.R_below (by exact HO_0.out) hb);have n1_:=Aside0.mk (Kept.below (S:=(fun k_ => P0_ k_)) (by exact HK.out) hb);have n2_:=Aside0.mk (below_step (by exact HB.out) hb);clear HO_0;clear HK;clear HB;have HO_0:=n0_;have HK:=n1_;have HB:=n2_;clear n0_ n1_ n2_;(try clear hb);have p7 : 0 ≤ (x5_1 : Int):=of_decide_eq_true (by (with_reducible assumption));have q7 : (x5_1 : Int) < ((x0_1.length : Int) : Int):=of_decide_eq_true (by (with_reducible assumption));obtain ⟨ce7,hcl7,hM7,hcc7,hfr7⟩ := Kd.R_elem HO_0.out z52 (x5_1 : Int) p7 q7;obtain rfl:=k52_openM hM7;have hx7_0 : w13.cell? ⟨go5,(x5_1 : Int).toNat * 4,none⟩ = some (.int .i64 ((rd_T52 y251 x5_1).f0)):=hcc7 0 _ rfl;have hx7_1 : w13.cell? ⟨go5,(x5_1 : Int).toNat * 4 + 1,none⟩ = some (.string ((rd_T52 y251 x5_1).f1)):=hcc7 1 _ rfl;have hx7_2 : w13.cell? ⟨go5,(x5_1 : Int).toNat * 4 + 2,none⟩ = some (.bool ((rd_T52 y251 x5_1).f2)):=hcc7 2 _ rfl;have hx7_3 : w13.cell? ⟨go5,(x5_1 : Int).toNat * 4 + 3,none⟩ = some (.int .i64 ((rd_T52 y251 x5_1).f3)):=hcc7 3 _ rfl;have hf7_0 : w13.frozen? ⟨go5,(x5_1 : Int).toNat * 4,none⟩ = false:=hfr7 0;have hf7_1 : w13.frozen? ⟨go5,(x5_1 : Int).toNat * 4 + 1,none⟩ = false:=hfr7 1;have hf7_2 : w13.frozen? ⟨go5,(x5_1 : Int).toNat * 4 + 2,none⟩ = false:=hfr7 2;have hf7_3 : w13.frozen? ⟨go5,(x5_1 : Int).toNat * 4 + 3,none⟩ = false:=hfr7 3;clear hcl7 hcc7 hfr7;(try clear hM7);replace p7:=eq_true p7;replace q7:=eq_true q7;have HX14:=Aside0.mk (show Kd.R k52 52 w13 w0.heap.size (fun k_ => (P0_ k_ ∨ w.heap.size ≤ k_)) (.slice (some ⟨go5,0,none⟩) x0_1.length co10) y251 from (by exact HO_0.out));obtain ⟨ce14,hcl14,hM14,hcc14,hfr14⟩ := Kd.R_elem HX14.out z52 (x5_1 : Int) (of_decide_eq_true (by (with_reducible assumption))) (by have h_ : (x5_1 : Int) < ((x0_1.length : Int) : Int):=of_decide_eq_true (by (with_reducible assumption));exact h_);obtain rfl:=k52_openM hM14;have HP14:=Kd.R_seg HX14.out (x5_1 : Int) (of_decide_eq_true (by (with_reducible assumption))) (by have h_ : (x5_1 : Int) < ((x0_1.length : Int) : Int):=of_decide_eq_true (by (with_reducible assumption));exact h_) (seg := [.string t252]) (j:=1) hcl14 hcc14 (show 2 ≤ 4 from by decide) (x':=(⟨(rd_T52 y251 x5_1).f0,t252,(rd_T52 y251 x5_1).f2,(rd_T52 y251 x5_1).f3⟩ : S52)) (k52_mkM _ _ _ (⟨(rd_T52 y251 x5_1).f0,t252,(rd_T52 y251 x5_1).f2,(rd_T52 y251 x5_1).f3⟩ : S52) ) (fun _ hk => hk);have hx14_1:=hcc14 1 _ rfl;(try simp only [show (k52).sz = 4 from rfl,Nat.mul_one,Nat.add_zero] at hx14_1);have hf14_1:=hfr14 1;(try simp only [show (k52).sz = 4 from rfl,Nat.mul_one,Nat.add_zero] at hf14_1);clear hcl14 hcc14 hfr14;(try clear hM14)) | ((with_reducible refine gate_store (t:=9) (p:=24) rfl ?_);refine store_event (t:=9) (p:=24) (v:=?vo_w15) (w1:=(w13.setCell ⟨go5,(x5_1 : Int).toNat * 4 + 1,none⟩ (.string t252))) ?hg ?ho ?hn ?hr ?_;(case ho => rfl);(case hg => rfl);(case hn => rfl);(case hr => (go_simp;done));intro w15 hw;have hg : w13.grownBy w15 (some go5):=(by rw [hw];exact HP14.2);have hp_ : Kd.R k52 52 w15 w0.heap.size (fun k_ => (P0_ k_ ∨ w.heap.size ≤ k_)) (.slice (some ⟨go5,0,none⟩) x0_1.length co10) y253:=(by rw [hw,Ny253.out];exact HP14.1);clear HP14;have n0_:=Aside0.mk (hp_);have n1_:=Aside0.mk ((by rw [hw];exact below_set (HB.out) GB5.out : Below w0.heap.size w0 w15));have n2_:=Aside0.mk (Kept.of_grown (S:=(fun k_ => P0_ k_)) hg (by exact HK.out) (fun k_ e_ => (HO_0.out.1 k_ e_)));clear HO_0;clear HB;clear HK;have HO_0:=n0_;have HB:=n1_;have HK:=n2_;clear n0_ n1_ n2_;clear hg hw hp_;have p8 : 0 ≤ (x5_1 : Int):=of_decide_eq_true (by (with_reducible assumption));have q8 : (x5_1 : Int) < ((x0_1.length : Int) : Int):=of_decide_eq_true (by (with_reducible assumption));obtain ⟨ce8,hcl8,hM8,hcc8,hfr8⟩ := Kd.R_elem HO_0.out z52 (x5_1 : Int) p8 q8;obtain rfl:=k52_openM hM8;have hx8_0 : w15.cell? ⟨go5,(x5_1 : Int).toNat * 4,none⟩ = some (.int .i64 ((rd_T52 y253 x5_1).f0)):=hcc8 0 _ rfl;have hx8_1 : w15.cell? ⟨go5,(x5_1 : Int).toNat * 4 + 1,none⟩ = some (.string ((rd_T52 y253 x5_1).f1)):=hcc8 1 _ rfl;have hx8_2 : w15.cell? ⟨go5,(x5_1 : Int).toNat * 4 + 2,none⟩ = some (.bool ((rd_T52 y253 x5_1).f2)):=hcc8 2 _ rfl;have hx8_3 : w15.cell? ⟨go5,(x5_1 : Int).toNat * 4 + 3,none⟩ = some (.int .i64 ((rd_T52 y253 x5_1).f3)):=hcc8 3 _ rfl;have hf8_0 : w15.frozen? ⟨go5,(x5_1 : Int).toNat * 4,none⟩ = false:=hfr8 0;have hf8_1 : w15.frozen? ⟨go5,(x5_1 : Int).toNat * 4 + 1,none⟩ = false:=hfr8 1;have hf8_2 : w15.frozen? ⟨go5,(x5_1 : Int).toNat * 4 + 2,none⟩ = false:=hfr8 2;have hf8_3 : w15.frozen? ⟨go5,(x5_1 : Int).toNat * 4 + 3,none⟩ = false:=hfr8 3;clear hcl8 hcc8 hfr8;(try clear hM8);replace p8:=eq_true p8;replace q8:=eq_true q8;have HX16:=Aside0.mk (show Kd.R k52 52 w15 w0.heap.size (fun k_ => (P0_ k_ ∨ w.heap.size ≤ k_)) (.slice (some ⟨go5,0,none⟩) x0_1.length co10) y253 from (by exact HO_0.out));obtain ⟨ce16,hcl16,hM16,hcc16,hfr16⟩ := Kd.R_elem HX16.out z52 (x5_1 : Int) (of_decide_eq_true (by (with_reducible assumption))) (by have h_ : (x5_1 : Int) < ((x0_1.length : Int) : Int):=of_decide_eq_true (by (with_reducible assumption));exact h_);obtain rfl:=k52_openM hM16;have HP16:=Kd.R_seg HX16.out (x5_1 : Int) (of_decide_eq_true (by (with_reducible assumption))) (by have h_ : (x5_1 : Int) < ((x0_1.length : Int) : Int):=of_decide_eq_true (by (with_reducible assumption));exact h_) (seg := [.bool ((Int.tmod (wrap64 ((wrap64 (x1_1 + 1)) + 1)) 3) == 0)]) (j:=2) hcl16 hcc16 (show 3 ≤ 4 from by decide) (x':=(⟨(rd_T52 y253 x5_1).f0,(rd_T52 y253 x5_1).f1,((Int.tmod (wrap64 ((wrap64 (x1_1 + 1)) + 1)) 3) == 0),(rd_T52 y253 x5_1).f3⟩ : S52)) (k52_mkM _ _ _ (⟨(rd_T52 y253 x5_1).f0,(rd_T52 y253 x5_1).f1,((Int.tmod (wrap64 ((wrap64 (x1_1 + 1)) + 1)) 3) == 0),(rd_T52 y253 x5_1).f3⟩ : S52) ) (fun _ hk => hk);have hx16_2:=hcc16 2 _ rfl;(try simp only [show (k52).sz = 4 from rfl,Nat.mul_one,Nat.add_zero] at hx16_2);have hf16_2:=hfr16 2;(try simp only [show (k52).sz = 4 from rfl,Nat.mul_one,Nat.add_zero] at hf16_2);clear hcl16 hcc16 hfr16;(try clear hM16)) | ((with_reducible refine gate_store (t:=4) (p:=33) rfl ?_);refine store_event (t:=4) (p:=33) (v:=?vo_w17) (w1:=(w15.setCell ⟨go5,(x5_1 : Int).toNat * 4 + 2,none⟩ (.bool ((Int.tmod (wrap64 ((wrap64 (x1_1 + 1)) + 1)) 3) == 0)))) ?hg ?ho ?hn ?hr ?_;(case ho => rfl);(case hg => rfl);(case hn => rfl);(case hr => (go_simp;done));intro w17 hw;have hg : w15.grownBy w17 (some go5):=(by rw [hw];exact HP16.2);have hp_ : Kd.R k52 52 w17 w0.heap.size (fun k_ => (P0_ k_ ∨ w.heap.size ≤ k_)) (.slice (some ⟨go5,0,none⟩) x0_1.length co10) y254:=(by rw [hw,Ny254.out];exact HP16.1);clear HP16;have n0_:=Aside0.mk (hp_);have n1_:=Aside0.mk ((by rw [hw];exact below_set (HB.out) GB5.out : Below w0.heap.size w0 w17));have n2_:=Aside0.mk (Kept.of_grown (S:=(fun k_ => P0_ k_)) hg (by exact HK.out) (fun k_ e_ => (HO_0.out.1 k_ e_)));clear HO_0;clear HB;clear HK;have HO_0:=n0_;have HB:=n1_;have HK:=n2_;clear n0_ n1_ n2_;clear hg hw hp_;have p9 : 0 ≤ (x5_1 : Int):=of_decide_eq_true (by (with_reducible assumption));have q9 : (x5_1 : Int) < ((x0_1.length : Int) : Int):=of_decide_eq_true (by (with_reducible assumption));obtain ⟨ce9,hcl9,hM9,hcc9,hfr9⟩ := Kd.R_elem HO_0.out z52 (x5_1 : Int) p9 q9;obtain rfl:=k52_openM hM9;have hx9_0 : w17.cell? ⟨go5,(x5_1 : Int).toNat * 4,none⟩ = some (.int .i64 ((rd_T52 y254 x5_1).f0)):=hcc9 0 _ rfl;have hx9_1 : w17.cell? ⟨go5,(x5_1 : Int).toNat * 4 + 1,none⟩ = some (.string ((rd_T52 y254 x5_1).f1)):=hcc9 1 _ rfl;have hx9_2 : w17.cell? ⟨go5,(x5_1 : Int).toNat * 4 + 2,none⟩ = some (.bool ((rd_T52 y254 x5_1).f2)):=hcc9 2 _ rfl;have hx9_3 : w17.cell? ⟨go5,(x5_1 : Int).toNat * 4 + 3,none⟩ = some (.int .i64 ((rd_T52 y254 x5_1).f3)):=hcc9 3 _ rfl;have hf9_0 : w17.frozen? ⟨go5,(x5_1 : Int).toNat * 4,none⟩ = false:=hfr9 0;have hf9_1 : w17.frozen? ⟨go5,(x5_1 : Int).toNat * 4 + 1,none⟩ = false:=hfr9 1;have hf9_2 : w17.frozen? ⟨go5,(x5_1 : Int).toNat * 4 + 2,none⟩ = false:=hfr9 2;have hf9_3 : w17.frozen? ⟨go5,(x5_1 : Int).toNat * 4 + 3,none⟩ = false:=hfr9 3;clear hcl9 hcc9 hfr9;(try clear hM9);replace p9:=eq_true p9;replace q9:=eq_true q9;have HX18:=Aside0.mk (show Kd.R k52 52 w17 w0.heap.size (fun k_ => (P0_ k_ ∨ w.heap.size ≤ k_)) (.slice (some ⟨go5,0,none⟩) x0_1.length co10) y254 from (by exact HO_0.out));obtain ⟨ce18,hcl18,hM18,hcc18,hfr18⟩ := Kd.R_elem HX18.out z52 (x5_1 : Int) (of_decide_eq_true (by (with_reducible assumption))) (by have h_ : (x5_1 : Int) < ((x0_1.length : Int) : Int):=of_decide_eq_true (by (with_reducible assumption));exact h_);obtain rfl:=k52_openM hM18;have HP18:=Kd.R_seg HX18.out (x5_1 : Int) (of_decide_eq_true (by (with_reducible assumption))) (by have h_ : (x5_1 : Int) < ((x0_1.length : Int) : Int):=of_decide_eq_true (by (with_reducible assumption));exact h_) (seg := [.int .i64 (wrap64 ((wrap64 ((wrap64 (x1_1 + 1)) + 1)) + 1))]) (j:=3) hcl18 hcc18 (show 4 ≤ 4 from by decide) (x':=(⟨(rd_T52 y254 x5_1).f0,(rd_T52 y254 x5_1).f1,(rd_T52 y254 x5_1).f2,wrap64 ((wrap64 ((wrap64 (x1_1 + 1)) + 1)) + 1)⟩ : S52)) (k52_mkM _ _ _ (⟨(rd_T52 y254 x5_1).f0,(rd_T52 y254 x5_1).f1,(rd_T52 y254 x5_1).f2,wrap64 ((wrap64 ((wrap64 (x1_1 + 1)) + 1)) + 1)⟩ : S52) ) (fun _ hk => hk);have hx18_3:=hcc18 3 _ rfl;(try simp only [show (k52).sz = 4 from rfl,Nat.mul_one,Nat.add_zero] at hx18_3);have hf18_3:=hfr18 3;(try simp only [show (k52).sz = 4 from rfl,Nat.mul_one,Nat.add_zero] at hf18_3);clear hcl18 hcc18 hfr18;(try clear hM18)) | ((with_reducible refine gate_store (t:=3) (p:=40) rfl ?_);refine store_event (t:=3) (p:=40) (v:=?vo_w19) (w1:=(w17.setCell ⟨go5,(x5_1 : Int).toNat * 4 + 3,none⟩ (.int .i64 (wrap64 ((wrap64 ((wrap64 (x1_1 + 1)) + 1)) + 1))))) ?hg ?ho ?hn ?hr ?_;(case ho => rfl);(case hg => rfl);(case hn => rfl);(case hr => (go_simp;done));intro w19 hw;have hg : w17.grownBy w19 (some go5):=(by rw [hw];exact HP18.2);have hp_ : Kd.R k52 52 w19 w0.heap.size (fun k_ => (P0_ k_ ∨ w.heap.size ≤ k_)) (.slice (some ⟨go5,0,none⟩) x0_1.length co10) y255:=(by rw [hw,Ny255.out];exact HP18.1);clear HP18;have n0_:=Aside0.mk (hp_);have n1_:=Aside0.mk ((by rw [hw];exact below_set (HB.out) GB5.out : Below w0.heap.size w0 w19));have n2_:=Aside0.mk (Kept.of_grown (S:=(fun k_ => P0_ k_)) hg (by exact HK.out) (fun k_ e_ => (HO_0.out.1 k_ e_)));clear HO_0;clear HB;clear HK;have HO_0:=n0_;have HB:=n1_;have HK:=n2_;clear n0_ n1_ n2_;clear hg hw hp_))
     go_roundg k1
     case measure => have:=HK1.out;omega
     case rel => exact ⟨(y255),(wrap64 ((wrap64 ((wrap64 ((wrap64 (x1_1 + 1)) + 1)) + 1)) + 1)),(wrap64 (x5_1 + 1)),(by rfl),(by rfl),H',⟨by have:=HK1.out;omega⟩,⟨by exact HO_0.out⟩,⟨by exact HK.out⟩,⟨by exact HB.out⟩⟩
    ·rw [if_neg c4] at H
     exact absurd H (by simp)
   ·rw [if_neg c3] at H
    have c3b0 : decide (x5_1 < (x0_1.length : Int)) = false:=decide_eq_false c3
    clear c3
    simp only [Option.some.injEq,Prod.mk.injEq] at H
    obtain ⟨rfl,rfl⟩ := H
    obtain ⟨Ao20,co20,eo20⟩ := Kd.R_slice HO_0.out
    subst eo20
    go_wp2
    go_ret
    exact ⟨by rfl,by exact HO_0.out,by exact HB.out,by exact HK.out⟩

/-! ### laws_markStringS: function 26 -/
def laws_markStringS.l0 : Nat → List ByteArray → Int → Int → Option (Int × List ByteArray)
 | 0,_,_,_ => none
 | k + 1,x0,x1,x5 => if x5 < (x0.length : Int) then ((laws_markText.f k x1).bind fun t256 => (if 0 ≤ x5 then (laws_markStringS.l0 k (x0.set (x5 : Int).toNat t256) (wrap64 (x1 + 1)) (wrap64 (x5 + 1))) else (none))) else (some (x1,x0))
def laws_markStringS.f (k : Nat) (l0 : List ByteArray) (a1 : Int) : Option (Int × List ByteArray):=laws_markStringS.l0 k l0 a1 0
theorem laws_markStringS.mono_l : ∀ k,(∀ y0 y1 y2,LeO (laws_markStringS.l0 k y0 y1 y2) (laws_markStringS.l0 (k + 1) y0 y1 y2))
 | 0 => fun _ _ _ r h => by simp [laws_markStringS.l0] at h
 | k + 1 => by
  have ih0:=laws_markStringS.mono_l k
  ·intro y0 y1 y2
   unfold laws_markStringS.l0
   repeat' first
   | (with_reducible exact ih0 _ _ _)
   | (with_reducible exact laws_markText.mono _ _)
   | (with_reducible exact LeO.refl _)
   | (with_reducible exact LeO.none _)
   | (with_reducible refine LeO.ite ?_ ?_)
   | (with_reducible refine LeO.bind ?_ (fun _ => ?_))
   | exact ih0 _ _ _
   | exact laws_markText.mono _ _
   | exact LeO.none _
   | refine LeO.ite ?_ ?_
   | refine LeO.bind ?_ (fun _ => ?_)
theorem laws_markStringS.mono : ∀ a0 a1 k,LeO (laws_markStringS.f k a0 a1) (laws_markStringS.f (k + 1) a0 a1):=by
 intro a0 a1 k
 have ih0:=laws_markStringS.mono_l k
 unfold laws_markStringS.f
 repeat' first
   | (with_reducible exact ih0 _ _ _)
   | (with_reducible exact laws_markText.mono _ _)
   | (with_reducible exact LeO.refl _)
   | (with_reducible exact LeO.none _)
   | (with_reducible refine LeO.ite ?_ ?_)
   | (with_reducible refine LeO.bind ?_ (fun _ => ?_))
   | exact ih0 _ _ _
   | exact laws_markText.mono _ _
   | exact LeO.none _
   | refine LeO.ite ?_ ?_
   | refine LeO.bind ?_ (fun _ => ?_)
set_option maxHeartbeats 8000000 in
set_option maxRecDepth 100000 in
theorem laws_markStringS.calls (k : Nat) (P0_ : Nat → Prop) (u9000_ : Value) (l0 : List ByteArray) (a1 : Int) (r1 : Int) (r2 : List ByteArray) (w0 w : World) (hB : Below w0.heap.size w0 w) (ho0 : Kd.R Kd.string 9 w w0.heap.size P0_ u9000_ l0) (h : laws_markStringS.f k l0 a1 = some (r1,r2)) :
  Calls Try.prog 26 #[u9000_, .int .i64 a1] w fun e w' => e = .returned (.int .i64 r1) ∧ Kd.R Kd.string 9 w' w0.heap.size (fun k_ => (P0_ k_ ∨ w.heap.size ≤ k_)) u9000_ r2 ∧ Below w0.heap.size w0 w' ∧ Kept w w' (fun k_ => P0_ k_):=by
 have HO0:=Aside0.mk (show Kd.R Kd.string 9 w w0.heap.size (fun k_ => (P0_ k_ ∨ w.heap.size ≤ k_)) u9000_ l0 from Kd.R_mono ho0 (fun k_ hk => (.inl hk)))
 have HK:=Aside0.mk (Kept.refl w (fun k_ => P0_ k_))
 have HW0:=Aside0.mk hB.size
 have HB:=Aside0.mk hB
 clear hB
 have H : (laws_markStringS.l0 k l0 a1 0) = some (r1,r2):=h
 clear h
 have H':=Aside0.mk H
 clear H
 go_enter Try.func26,Try.ntmps26
 go_wp2
 go_loopg [1,5] k (fun kq v1 v5 w' => ∃ (x0_1 : List ByteArray) (x1_1 : Int) (x5_1 : Int),v1 = .int .i64 x1_1 ∧ v5 = .int .i64 x5_1 ∧ Aside0 (laws_markStringS.l0 kq x0_1 x1_1 x5_1 = some (r1,r2)) ∧ Aside0 (kq ≤ k) ∧ Aside0 (Kd.R Kd.string 9 w' w0.heap.size (fun k_ => (P0_ k_ ∨ w.heap.size ≤ k_)) u9000_ x0_1) ∧ Aside0 (Kept w w' (fun k_ => P0_ k_)) ∧ Aside0 (Below w0.heap.size w0 w'))
 case atStart => exact ⟨(l0),(a1),(0),(by rfl),(by rfl),H',⟨Nat.le_refl _⟩,⟨by exact HO0.out⟩,⟨by exact HK.out⟩,⟨by exact HB.out⟩⟩
 case round =>
  clear H'
  try clear c2
  try clear p2
  obtain ⟨x0_1,x1_1,x5_1,rfl,rfl,HA,HK1,HO_0,HK,HB⟩ := hrel
  cases gk with
  | zero => exact absurd HA.out (by simp [laws_markStringS.l0])
  | succ k1 =>
   have H:=HA.out
   clear HA
   simp only [laws_markStringS.l0] at H
   by_cases c3 : x5_1 < (x0_1.length : Int)
   ·rw [if_pos c3] at H
    have c3b0 : decide (x5_1 < (x0_1.length : Int)) = true:=decide_eq_true c3
    clear c3
    replace H:=Option.bind_eq_some_iff.mp H
    obtain ⟨t256,A40,H⟩ := H
    replace H : (if 0 ≤ x5_1 then (laws_markStringS.l0 k1 (x0_1.set (x5_1 : Int).toNat t256) (wrap64 (x1_1 + 1)) (wrap64 (x5_1 + 1))) else (none)) = some (r1,r2):=H
    have A4:=Aside0.mk A40
    clear A40
    by_cases c5 : 0 ≤ x5_1
    ·rw [if_pos c5] at H
     have c5b0 : decide (0 ≤ x5_1) = true:=decide_eq_true c5
     clear c5
     obtain ⟨y257,hy257⟩ : ∃ y_ : List ByteArray,y_ = (x0_1.set (x5_1 : Int).toNat t256):=⟨_,rfl⟩
     replace H : (laws_markStringS.l0 k1 y257 (wrap64 (x1_1 + 1)) (wrap64 (x5_1 + 1))) = some (r1,r2):=by (rw [hy257];with_reducible exact H)
     have Ny257:=Aside0.mk hy257
     clear hy257
     have H':=Aside0.mk H
     clear H
     obtain ⟨Ao7,co7,eo7⟩ := Kd.R_slice HO_0.out
     subst eo7
     go_wp2_with (first | ((with_reducible refine gate_callee (f:=50) rfl ?_);refine goesL_ (some 15) rfl rfl Try.func50 (by kernel_rfl) rfl #[.int .i64 x1_1] rfl (by (try simp only [List.map_toArray,List.map_cons,List.map_nil]);rfl) ?_;(with_reducible refine (laws_markText.calls k1 x1_1 t256 _ A4.out).mono ?_);rintro e w8 ⟨rfl,hb⟩;refine ⟨_,rfl, ?_⟩;have n0_:=Aside0.mk (Kd.R_below (by exact HO_0.out) hb);have n1_:=Aside0.mk (Kept.below (S:=(fun k_ => P0_ k_)) (by exact HK.out) hb);have n2_:=Aside0.mk (below_step (by exact HB.out) hb);clear HO_0;clear HK;clear HB;have HO_0:=n0_;have HK:=n1_;have HB:=n2_;clear n0_ n1_ n2_;(try clear hb);have p6 : 0 ≤ (x5_1 : Int):=of_decide_eq_true (by (with_reducible assumption));have q6 : (x5_1 : Int) < ((x0_1.length : Int) : Int):=of_decide_eq_true (by (with_reducible assumption));obtain ⟨go6,co6,eo6,gb6,gl6,cl6,HG6⟩ := Kd.R_form HO_0.out (by omega);(cases eo6);have GB6:=Aside0.mk gb6;have GG6:=Aside0.mk HG6;clear gb6 gl6 HG6;have HMgo6:=Aside0.mk (show (P0_ go6 ∨ w.heap.size ≤ go6) from (HO_0.out.1 _ rfl));obtain ⟨hx6_0,hf6_0⟩ := Kd.R_celln (⟨#[]⟩ : ByteArray) HO_0.out (x5_1 : Int) p6 q6;replace p6:=eq_true p6;replace q6:=eq_true q6;obtain ⟨hy9_,hz9_⟩ := Kd.R_celln (⟨#[]⟩ : ByteArray) HO_0.out (x5_1 : Int) (of_decide_eq_true (by (with_reducible assumption))) (of_decide_eq_true (by (with_reducible assumption)));have HP9:=Kd.R_putg HO_0.out (x5_1 : Int) t256) | ((with_reducible refine gate_store (t:=9) (p:=16) rfl ?_);refine store_event (t:=9) (p:=16) (v:=?vo_w10) (w1:=(w8.setCell ⟨go6,(x5_1 : Int).toNat,none⟩ (.string t256))) ?hg ?ho ?hn ?hr ?_;(case ho => rfl);(case hg => rfl);(case hn => rfl);(case hr => (go_simp;done));intro w10 hw;have hg : w8.grownBy w10 (some go6):=(by rw [hw];exact HP9.2);have hp_ : Kd.R Kd.string 9 w10 w0.heap.size (fun k_ => (P0_ k_ ∨ w.heap.size ≤ k_)) (.slice (some ⟨go6,0,none⟩) x0_1.length co7) y257:=(by rw [hw,Ny257.out];exact HP9.1);clear HP9;have n0_:=Aside0.mk (hp_);have n1_:=Aside0.mk ((by rw [hw];exact below_set (HB.out) GB6.out : Below w0.heap.size w0 w10));have n2_:=Aside0.mk (Kept.of_grown (S:=(fun k_ => P0_ k_)) hg (by exact HK.out) (fun k_ e_ => (HO_0.out.1 k_ e_)));clear HO_0;clear HB;clear HK;have HO_0:=n0_;have HB:=n1_;have HK:=n2_;clear n0_ n1_ n2_;clear hg hw hp_))
     go_roundg k1
     case measure => have:=HK1.out;omega
     case rel => exact ⟨(y257),(wrap64 (x1_1 + 1)),(wrap64 (x5_1 + 1)),(by rfl),(by rfl),H',⟨by have:=HK1.out;omega⟩,⟨by exact HO_0.out⟩,⟨by exact HK.out⟩,⟨by exact HB.out⟩⟩
    ·rw [if_neg c5] at H
     exact absurd H (by simp)
   ·rw [if_neg c3] at H
    have c3b0 : decide (x5_1 < (x0_1.length : Int)) = false:=decide_eq_false c3
    clear c3
    simp only [Option.some.injEq,Prod.mk.injEq] at H
    obtain ⟨rfl,rfl⟩ := H
    obtain ⟨Ao11,co11,eo11⟩ := Kd.R_slice HO_0.out
    subst eo11
    go_wp2
    go_ret
    exact ⟨by rfl,by exact HO_0.out,by exact HB.out,by exact HK.out⟩

end Go.Proofs.Yteebkbikpamkmaa.PFnExactHeldContainers
