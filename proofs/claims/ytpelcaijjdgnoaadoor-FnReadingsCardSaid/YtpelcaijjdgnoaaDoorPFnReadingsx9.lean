-- Written by a program of this session, over the kit's print (wip/xprint.py)
import Derived.Test.YtpelcaijjdgnoaaDoorPFnReadingsx0
import Derived.Test.YtpelcaijjdgnoaaDoorPFnReadingsx4
import Derived.Test.YtpelcaijjdgnoaaDoorPFnReadingsx8
namespace Go.Proofs.YtpelcaijjdgnoaaDoor.PFnReadings
open Go.RowKit Go.Proofs.YtpelcaijjdgnoaaDoorW.PrintWords Go.Proofs.YtpelcaijjdgnoaaDoorW.PrintLast Go.Proofs.YtpelcaijjdgnoaaDoorW.PrintMore
attribute [local go_sem] max2_int min2_int max_two min_two max_three min_three max_four min_four   -- for this text's walks alone
set_option linter.unusedVariables false
set_option linter.unusedSimpArgs false

/-! ### impl_AddReading: function 19 -/
mutual
def impl_AddReading.j1 : Nat → List (S41) → Int → Int → Int → Bool → Option ((List (S41)) × Bool)
 | 0,_,_,_,_,_ => none
 | k + 1,x0,x6,x332000,x332001,x332002 => (slices_Clone_impl_Reading.f x0).bind fun t334 => ((slices_Insert_impl_Reading.f t334 x6 (([(⟨x332000,x332001,x332002⟩ : S41)] : List (S41)))).bind fun t340 => ((impl_IsValidReadings.f k t340).bind fun t343 => (if t343 = true then (some (t340,true)) else (some (([] : List (S41)),false)))))
def impl_AddReading.l0 : Nat → List (S41) → Int → Int → Int → Bool → Option ((List (S41)) × Bool)
 | 0,_,_,_,_,_ => none
 | k + 1,x0,x6,x332000,x332001,x332002 => if x6 < (x0.length : Int) then (if 0 ≤ x6 then (if ((rd_T41 x0 x6).f0) < x332000 then (impl_AddReading.l0 k x0 (wrap64 (x6 + 1)) x332000 x332001 x332002) else (impl_AddReading.j1 k x0 x6 x332000 x332001 x332002)) else (none)) else (impl_AddReading.j1 k x0 x6 x332000 x332001 x332002)
end
def impl_AddReading.f (k : Nat) (l0 : List (S41)) (a1_0 : Int) (a1_1 : Int) (a1_2 : Bool) : Option ((List (S41)) × Bool):=(impl_IsValidReadings.f k l0).bind fun t332 => (if t332 = true then (impl_AddReading.l0 k l0 0 a1_0 a1_1 a1_2) else (some (([] : List (S41)),false)))
theorem impl_AddReading.mono_l : ∀ k,(∀ y0 y1 y2 y3 y4,LeO (impl_AddReading.j1 k y0 y1 y2 y3 y4) (impl_AddReading.j1 (k + 1) y0 y1 y2 y3 y4)) ∧ (∀ y0 y1 y2 y3 y4,LeO (impl_AddReading.l0 k y0 y1 y2 y3 y4) (impl_AddReading.l0 (k + 1) y0 y1 y2 y3 y4))
 | 0 => ⟨fun _ _ _ _ _ r h => by simp [impl_AddReading.j1] at h,fun _ _ _ _ _ r h => by simp [impl_AddReading.l0] at h⟩
 | k + 1 => by
  obtain ⟨ih0,ih1⟩ := impl_AddReading.mono_l k
  refine ⟨?_, ?_⟩
  ·intro y0 y1 y2 y3 y4
   unfold impl_AddReading.j1
   repeat' first
   | (with_reducible exact ih0 _ _ _ _ _)
   | (with_reducible exact ih1 _ _ _ _ _)
   | (with_reducible exact impl_IsValidReadings.mono _ _)
   | (with_reducible exact LeO.refl _)
   | (with_reducible exact LeO.none _)
   | (with_reducible refine LeO.ite ?_ ?_)
   | (with_reducible refine LeO.bind ?_ (fun _ => ?_))
   | exact ih0 _ _ _ _ _
   | exact ih1 _ _ _ _ _
   | exact impl_IsValidReadings.mono _ _
   | exact LeO.none _
   | refine LeO.ite ?_ ?_
   | refine LeO.bind ?_ (fun _ => ?_)
  ·intro y0 y1 y2 y3 y4
   unfold impl_AddReading.l0
   repeat' first
   | (with_reducible exact ih0 _ _ _ _ _)
   | (with_reducible exact ih1 _ _ _ _ _)
   | (with_reducible exact impl_IsValidReadings.mono _ _)
   | (with_reducible exact LeO.refl _)
   | (with_reducible exact LeO.none _)
   | (with_reducible refine LeO.ite ?_ ?_)
   | (with_reducible refine LeO.bind ?_ (fun _ => ?_))
   | exact ih0 _ _ _ _ _
   | exact ih1 _ _ _ _ _
   | exact impl_IsValidReadings.mono _ _
   | exact LeO.none _
   | refine LeO.ite ?_ ?_
   | refine LeO.bind ?_ (fun _ => ?_)
theorem impl_AddReading.mono : ∀ a0 a1 a2 a3 k,LeO (impl_AddReading.f k a0 a1 a2 a3) (impl_AddReading.f (k + 1) a0 a1 a2 a3):=by
 intro a0 a1 a2 a3 k
 obtain ⟨ih0,ih1⟩ := impl_AddReading.mono_l k
 unfold impl_AddReading.f
 repeat' first
   | (with_reducible exact ih0 _ _ _ _ _)
   | (with_reducible exact ih1 _ _ _ _ _)
   | (with_reducible exact impl_IsValidReadings.mono _ _)
   | (with_reducible exact LeO.refl _)
   | (with_reducible exact LeO.none _)
   | (with_reducible refine LeO.ite ?_ ?_)
   | (with_reducible refine LeO.bind ?_ (fun _ => ?_))
   | exact ih0 _ _ _ _ _
   | exact ih1 _ _ _ _ _
   | exact impl_IsValidReadings.mono _ _
   | exact LeO.none _
   | refine LeO.ite ?_ ?_
   | refine LeO.bind ?_ (fun _ => ?_)
def impl_AddReading.T4 : Bool × List (List Nat × List Nat):=(true,[([],[]),([],[]),([1],[1]),([0,2],[0,2]),([3],[3]),([4],[4]),([4],[4]),([5,6,4],[4,5,6]),([7,4],[4,7]),([8,4],[4,8]),([4],[4]),([10,4],[4,10]),([9,11,4],[4,9,11]),([4,12],[4,12])])
def impl_AddReading.B4 : List Nat := [0,0,2,7,15,31,31,127,255,511,31,1055,4095,8191]
theorem impl_AddReading.tab4 : rtab .any (opsOf Tryd.f19 4) = impl_AddReading.T4:=by kernel_rfl
theorem impl_AddReading.bits4 : waitsOk impl_AddReading.T4.2 impl_AddReading.B4 = true:=by kernel_rfl
set_option maxHeartbeats 8000000 in
set_option maxRecDepth 100000 in
theorem impl_AddReading.calls (k : Nat) (A0 : Option Addr) (c0 : Nat) (l0 : List (S41)) (a1_0 : Int) (a1_1 : Int) (a1_2 : Bool) (r1 : List (S41)) (r2 : Bool) (w : World) (hr0 : Kd.C k41 w A0 l0.length l0) (hc0 : l0.length ≤ c0) (h : impl_AddReading.f k l0 a1_0 a1_1 a1_2 = some (r1,r2)) :
  Calls Tryd.prog 19 #[.slice A0 l0.length c0, .agg #[.int .i64 a1_0, .int .i64 a1_1, .bool a1_2]] w fun e w' => ∃ v0_ : Value,e = .returned (.tuple #[v0_, .bool r2]) ∧ Kd.R k41 41 w' w.heap.size (fun _ => True) v0_ r1 ∧ Below w.heap.size w w':=by
 have hu41:=Tryd.underlying41
 have HR0:=Aside0.mk hr0
 have HC0:=Aside0.mk hc0
 clear hr0 hc0
 have HB:=Aside0.mk (Below.refl w.heap.size w)
 have H : ((impl_IsValidReadings.f k l0).bind fun t332 => (if t332 = true then (impl_AddReading.l0 k l0 0 a1_0 a1_1 a1_2) else (some (([] : List (S41)),false)))) = some (r1,r2):=h
 clear h
 replace H:=Option.bind_eq_some_iff.mp H
 obtain ⟨t332,A30,H⟩ := H
 replace H : (if t332 = true then (impl_AddReading.l0 k l0 0 a1_0 a1_1 a1_2) else (some (([] : List (S41)),false))) = some (r1,r2):=H
 have A3:=Aside0.mk A30
 clear A30
 by_cases c4 : t332 = true
 ·subst c4
  have H1 : (impl_AddReading.l0 k l0 0 a1_0 a1_1 a1_2) = some (r1,r2):=by rw [if_pos rfl] at H;exact H
  clear H
  have H:=H1
  clear H1
  have HC5:=Aside0.mk H
  clear H
  go_enter Tryd.func19,Tryd.ntmps19
  go_upto_block 0 with (first | ((with_reducible refine gate_dst (N:=3) rfl ?_);refine box_event ?hg (N:=3) ?hd (cs:=#[.int .i64 a1_0, .int .i64 a1_1, .bool a1_2]) (t:=41) ?hr ?_;(case hd => rfl);(case hg => rfl);(case hr => (go_simp;done));intro gb331 hg w6 hbox hb;have n0_:=Aside0.mk (below_step (by exact HB.out) hb);have n1_:=Aside0.mk (hbox);have n2_:=Aside0.mk ((by rw [hg];exact (below_size (by exact HB.out)) : w.heap.size ≤ gb331));have n3_:=Aside0.mk ((by rw [hg];exact (below_size (by exact HB.out)) : w.heap.size ≤ gb331));clear HB;have HB:=n0_;have BK331:=n1_;have GW331:=n2_;have GE331:=n3_;clear n0_ n1_ n2_ n3_;clear hb hbox hg) | ((with_reducible refine gate_callee (f:=22) rfl ?_);refine goesL_ (some 9) rfl rfl Tryd.func22 (by kernel_rfl) rfl #[.slice A0 l0.length c0] rfl (by (try simp only [List.map_toArray,List.map_cons,List.map_nil]);rfl) ?_;(with_reducible refine (impl_IsValidReadings.calls k _ _ l0 true _ ?side1 ?side2 A3.out).mono ?_);(case side1 => repeat (exact (Kd.C_below HR0.out HB.out)));(case side2 => exact HC0.out);rintro e w7 ⟨rfl,hb⟩;refine ⟨_,rfl, ?_⟩;have n0_:=Aside0.mk (blk_below (g:=gb331) (o := .cells #[.int .i64 a1_0, .int .i64 a1_1, .bool a1_2] 41 (0,0)) (by exact BK331.out) hb);have n1_:=Aside0.mk (below_step (by exact HB.out) hb);clear BK331;clear HB;have BK331:=n0_;have HB:=n1_;clear n0_ n1_;(try clear hb)))
  (skip)
  go_cut [6] (fun v6 wc => ∃ (kq : Nat) (x6_4 : Int),v6 = .int .i64 x6_4 ∧ Aside0 (impl_AddReading.j1 kq l0 x6_4 a1_0 a1_1 a1_2 = some (r1,r2)) ∧ Aside0 (kq ≤ k) ∧ Aside0 (wc.heap[gb331]? = some (.cells #[.int .i64 a1_0, .int .i64 a1_1, .bool a1_2] 41 (0,0))) ∧ Aside0 (Below w.heap.size w wc))
  case first =>
   have H:=HC5.out
   clear HC5
   have H':=Aside0.mk H
   clear H
   go_wp2
   (skip)
   go_loopg [6] k (fun kq v6 w' => ∃ (x6_1 : Int),v6 = .int .i64 x6_1 ∧ Aside0 (impl_AddReading.l0 kq l0 x6_1 a1_0 a1_1 a1_2 = some (r1,r2)) ∧ Aside0 (kq ≤ k) ∧ Aside0 (w'.heap[gb331]? = some (.cells #[.int .i64 a1_0, .int .i64 a1_1, .bool a1_2] 41 (0,0))) ∧ Aside0 (Below w.heap.size w w'))
   case atStart => exact ⟨(0),(by rfl),H',⟨Nat.le_refl _⟩,⟨by exact BK331.out⟩,⟨by exact HB.out⟩⟩
   case round =>
    clear H'
    try clear c1
    try clear c2
    try clear p2
    try clear c4
    obtain ⟨x6_1,rfl,HA,HK1,BK331,HB⟩ := hrel
    cases gk with
    | zero => exact absurd HA.out (by simp [impl_AddReading.l0])
    | succ k1 =>
     have H:=HA.out
     clear HA
     simp only [impl_AddReading.l0] at H
     by_cases c8 : x6_1 < (l0.length : Int)
     ·rw [if_pos c8] at H
      have c8b0 : decide (x6_1 < (l0.length : Int)) = true:=decide_eq_true c8
      clear c8
      (skip)
      by_cases c9 : 0 ≤ x6_1
      ·rw [if_pos c9] at H
       have c9b0 : decide (0 ≤ x6_1) = true:=decide_eq_true c9
       clear c9
       by_cases c10 : ((rd_T41 l0 x6_1).f0) < a1_0
       ·rw [if_pos c10] at H
        have c10b0 : decide (((rd_T41 l0 x6_1).f0) < a1_0) = true:=decide_eq_true c10
        clear c10
        have H':=Aside0.mk H
        clear H
        try go_wp2
        have n0_:=Aside0.mk (blk_drew BK331.out)
        have n1_:=Aside0.mk (below_drew1 HB.out)
        clear BK331
        clear HB
        have BK331:=n0_
        have HB:=n1_
        clear n0_ n1_
        have p333 : 0 ≤ (x6_1 : Int):=of_decide_eq_true (by (with_reducible assumption))
        have q333 : x6_1 < (l0.length : Int):=of_decide_eq_true (by (with_reducible assumption))
        obtain ⟨ad333,e333,hx333_0,hx333_1,hx333_2⟩ := at_T41 HR0.out x6_1 p333 q333
        have hw333_2:=hx333_2
        have hw333_1:=hx333_1
        have hw333_0:=hx333_0
        cases e333
        replace hx333_0:=(HB.out.cell (World.block_lt_of_cell? w _ hx333_0)).trans hx333_0
        replace hx333_1:=(HB.out.cell (World.block_lt_of_cell? w _ hx333_1)).trans hx333_1
        replace hx333_2:=(HB.out.cell (World.block_lt_of_cell? w _ hx333_2)).trans hx333_2
        replace p333:=eq_true p333
        replace q333:=eq_true q333
        refine start_ (n:=14) (S:=fun w' => w'.cell? ⟨gb331,0,none⟩ = some (.int .i64 a1_0) ∧ w'.cell? ⟨gb331,1,none⟩ = some (.int .i64 a1_1) ∧ w'.cell? ⟨gb331,2,none⟩ = some (.bool a1_2) ∧ w'.cell? (ad333.add ((x6_1).toNat * 3)) = some (.int .i64 ((rd_T41 l0 x6_1).f0)) ∧ w'.cell? ⟨(ad333.add ((x6_1).toNat * 3)).block,(ad333.add ((x6_1).toNat * 3)).off + 1,none⟩ = some (.int .i64 ((rd_T41 l0 x6_1).f1)) ∧ w'.cell? ⟨(ad333.add ((x6_1).toNat * 3)).block,(ad333.add ((x6_1).toNat * 3)).off + 2,none⟩ = some (.bool ((rd_T41 l0 x6_1).f2))) (ds := []) #[false,false,false,false,false,false,false,false,false,false,false,false,false,false] (by kernel_rfl) rfl rfl ⟨(blk_cell BK331.out 0).trans rfl,(blk_cell BK331.out 1).trans rfl,(blk_cell BK331.out 2).trans rfl,((HB.out.cell (World.block_lt_of_cell? w _ hw333_0)).trans hw333_0),((HB.out.cell (World.block_lt_of_cell? w _ hw333_1)).trans hw333_1),((HB.out.cell (World.block_lt_of_cell? w _ hw333_2)).trans hw333_2)⟩ (fun hHeld => ?_);refine with_tabW impl_AddReading.tab4 impl_AddReading.bits4 (fun HT_ HW_ => ?_)
        generalize wr.drew = w11 at BK331 HB hx333_0 hx333_1 hx333_2 hHeld ⊢
        refine pure_ (i:=0) (N:=some 11) (v:=?_) (a':=?_) #[true,false,false,false,false,false,false,false,false,false,false,false,false,false] rfl rfl (any_of HT_.out (by kernel_rfl)) (fun _ _ _ h => h) (Or.inl ⟨by rfl, ?_⟩) ?_ ?_
        rotate_left
        ·intro w'
         go_simp
         with_reducible rfl
        rotate_left
        ·simp only [Act.put,sA_,s0_,s1_,i64_w,i32_w]
         rfl
        refine pure_ (i:=1) (N:=some 12) (v:=?_) (a':=?_) #[true,true,false,false,false,false,false,false,false,false,false,false,false,false] rfl rfl (any_of HT_.out (by kernel_rfl)) (fun _ _ _ h => h) (Or.inl ⟨by rfl, ?_⟩) ?_ ?_
        rotate_left
        ·intro w'
         go_simp
         with_reducible rfl
        rotate_left
        ·simp only [Act.put,sA_,s0_,s1_,i64_w,i32_w]
         rfl
        refine pure_ (i:=2) (N:=some 13) (v:=?_) (a':=?_) #[true,true,true,false,false,false,false,false,false,false,false,false,false,false] rfl rfl (any_of HT_.out (by kernel_rfl)) (fun _ _ _ h => h) (Or.inl ⟨by rfl, ?_⟩) ?_ ?_
        rotate_left
        ·intro w'
         go_simp
         with_reducible rfl
        rotate_left
        ·simp only [Act.put,sA_,s0_,s1_,i64_w,i32_w]
         rfl
        refine pure_ (i:=3) (N:=some 14) (v:=?_) (a':=?_) #[true,true,true,true,false,false,false,false,false,false,false,false,false,false] rfl rfl (any_of HT_.out (by kernel_rfl)) (fun _ _ _ h => h) (Or.inl ⟨by rfl, ?_⟩) ?_ ?_
        rotate_left
        ·intro w'
         go_simp
         with_reducible rfl
        rotate_left
        ·simp only [Act.put,sA_,s0_,s1_,i64_w,i32_w]
         rfl
        refine pure_ (i:=4) (N:=some 15) (v:=?_) (a':=?_) #[true,true,true,true,true,false,false,false,false,false,false,false,false,false] rfl rfl (any_of HT_.out (by kernel_rfl)) (fun _ _ _ h => h) (Or.inl ⟨by rfl, ?_⟩) ?_ ?_
        rotate_left
        ·intro w'
         go_simp
         with_reducible rfl
        rotate_left
        ·simp only [Act.put,sA_,s0_,s1_,i64_w,i32_w]
         rfl
        refine pure_ (i:=5) (N:=some 16) (v:=?_) (a':=?_) #[true,true,true,true,true,true,false,false,false,false,false,false,false,false] rfl rfl (any_of HT_.out (by kernel_rfl)) (fun _ _ _ h => h) (Or.inl ⟨by rfl, ?_⟩) ?_ ?_
        rotate_left
        ·intro w'
         go_simp
         with_reducible rfl
        rotate_left
        ·simp only [Act.put,sA_,s0_,s1_,i64_w,i32_w]
         rfl
        refine pure_ (i:=6) (N:=some 17) (v:=?_) (a':=?_) #[true,true,true,true,true,true,true,false,false,false,false,false,false,false] rfl rfl (any_of HT_.out (by kernel_rfl)) (fun _ _ _ h => h) (Or.inl ⟨by rfl, ?_⟩) ?_ ?_
        rotate_left
        ·intro w'
         go_simp
         with_reducible rfl
        rotate_left
        ·simp only [Act.put,sA_,s0_,s1_,i64_w,i32_w]
         rfl
        refine pure_ (i:=7) (N:=some 18) (v:=?_) (a':=?_) #[true,true,true,true,true,true,true,true,false,false,false,false,false,false] rfl rfl (any_of HT_.out (by kernel_rfl)) (fun _ _ _ h => h) (Or.inl ⟨by rfl, ?_⟩) ?_ ?_
        rotate_left
        ·intro w'
         go_simp
         with_reducible rfl
        rotate_left
        ·simp only [Act.put,sA_,s0_,s1_,i64_w,i32_w]
         rfl
        refine pure_ (i:=8) (N:=some 19) (v:=?_) (a':=?_) #[true,true,true,true,true,true,true,true,true,false,false,false,false,false] rfl rfl (any_of HT_.out (by kernel_rfl)) (fun _ _ _ h => h) (Or.inl ⟨by rfl, ?_⟩) ?_ ?_
        rotate_left
        ·intro w'
         go_simp
         with_reducible rfl
        rotate_left
        ·simp only [Act.put,sA_,s0_,s1_,i64_w,i32_w]
         rfl
        refine pure_ (i:=10) (N:=some 21) (v:=?_) (a':=?_) #[true,true,true,true,true,true,true,true,true,false,true,false,false,false] rfl rfl (any_of HT_.out (by kernel_rfl)) (fun _ _ _ h => h) (Or.inl ⟨by rfl, ?_⟩) ?_ ?_
        rotate_left
        ·intro w'
         go_simp
         with_reducible rfl
        rotate_left
        ·simp only [Act.put,sA_,s0_,s1_,i64_w,i32_w]
         rfl
        refine take_ (i:=9) (N:=some 20) (v:=?_) (a':=?_) #[true,true,true,true,true,true,true,true,true,true,true,false,false,false] rfl rfl (take_ofW HT_.out HW_.out (by kernel_rfl)) (fun _ _ _ h => h) (Or.inl ⟨by rfl, ?_⟩) hHeld ?_ ?_
        rotate_left
        ·rintro w' ⟨s0,s1,s2,s3,s4,s5⟩
         go_simp
         with_reducible rfl
        rotate_left
        ·simp only [Act.put,sA_,s0_,s1_,i64_w,i32_w]
         rfl
        refine take_ (i:=11) (N:=some 22) (v:=?_) (a':=?_) #[true,true,true,true,true,true,true,true,true,true,true,true,false,false] rfl rfl (take_ofW HT_.out HW_.out (by kernel_rfl)) (fun _ _ _ h => h) (Or.inl ⟨by rfl, ?_⟩) hHeld ?_ ?_
        rotate_left
        ·rintro w' ⟨s0,s1,s2,s3,s4,s5⟩
         go_simp
         with_reducible rfl
        rotate_left
        ·simp only [Act.put,sA_,s0_,s1_,i64_w,i32_w]
         rfl
        refine pure_ (i:=12) (N:=some 23) (v:=?_) (a':=?_) #[true,true,true,true,true,true,true,true,true,true,true,true,true,false] rfl rfl (any_of HT_.out (by kernel_rfl)) (fun _ _ _ h => h) (Or.inl ⟨by rfl, ?_⟩) ?_ ?_
        rotate_left
        ·intro w'
         go_simp
         with_reducible rfl
        rotate_left
        ·simp only [Act.put,sA_,s0_,s1_,i64_w,i32_w]
         rfl
        refine pure_ (i:=13) (N:=some 24) (v:=?_) (a':=?_) #[true,true,true,true,true,true,true,true,true,true,true,true,true,true] rfl rfl (any_of HT_.out (by kernel_rfl)) (fun _ _ _ h => h) (Or.inl ⟨by rfl, ?_⟩) ?_ ?_
        rotate_left
        ·intro w'
         go_simp
         with_reducible rfl
        rotate_left
        ·simp only [Act.put,sA_,s0_,s1_,i64_w,i32_w]
         rfl
        refine done_ (done_of HT_.out (by kernel_rfl)) ?_
        try go_wp2
        go_roundg k1
        case measure => have:=HK1.out;omega
        case rel => exact ⟨(wrap64 (x6_1 + 1)),(by rfl),H',⟨by have:=HK1.out;omega⟩,⟨by exact BK331.out⟩,⟨by exact HB.out⟩⟩
       ·rw [if_neg c10] at H
        have c10b0 : decide (((rd_T41 l0 x6_1).f0) < a1_0) = false:=decide_eq_false c10
        clear c10
        have H':=Aside0.mk H
        clear H
        try go_wp2
        have n0_:=Aside0.mk (blk_drew BK331.out)
        have n1_:=Aside0.mk (below_drew1 HB.out)
        clear BK331
        clear HB
        have BK331:=n0_
        have HB:=n1_
        clear n0_ n1_
        have p333 : 0 ≤ (x6_1 : Int):=of_decide_eq_true (by (with_reducible assumption))
        have q333 : x6_1 < (l0.length : Int):=of_decide_eq_true (by (with_reducible assumption))
        obtain ⟨ad333,e333,hx333_0,hx333_1,hx333_2⟩ := at_T41 HR0.out x6_1 p333 q333
        have hw333_2:=hx333_2
        have hw333_1:=hx333_1
        have hw333_0:=hx333_0
        cases e333
        replace hx333_0:=(HB.out.cell (World.block_lt_of_cell? w _ hx333_0)).trans hx333_0
        replace hx333_1:=(HB.out.cell (World.block_lt_of_cell? w _ hx333_1)).trans hx333_1
        replace hx333_2:=(HB.out.cell (World.block_lt_of_cell? w _ hx333_2)).trans hx333_2
        replace p333:=eq_true p333
        replace q333:=eq_true q333
        refine start_ (n:=14) (S:=fun w' => w'.cell? ⟨gb331,0,none⟩ = some (.int .i64 a1_0) ∧ w'.cell? ⟨gb331,1,none⟩ = some (.int .i64 a1_1) ∧ w'.cell? ⟨gb331,2,none⟩ = some (.bool a1_2) ∧ w'.cell? (ad333.add ((x6_1).toNat * 3)) = some (.int .i64 ((rd_T41 l0 x6_1).f0)) ∧ w'.cell? ⟨(ad333.add ((x6_1).toNat * 3)).block,(ad333.add ((x6_1).toNat * 3)).off + 1,none⟩ = some (.int .i64 ((rd_T41 l0 x6_1).f1)) ∧ w'.cell? ⟨(ad333.add ((x6_1).toNat * 3)).block,(ad333.add ((x6_1).toNat * 3)).off + 2,none⟩ = some (.bool ((rd_T41 l0 x6_1).f2))) (ds := []) #[false,false,false,false,false,false,false,false,false,false,false,false,false,false] (by kernel_rfl) rfl rfl ⟨(blk_cell BK331.out 0).trans rfl,(blk_cell BK331.out 1).trans rfl,(blk_cell BK331.out 2).trans rfl,((HB.out.cell (World.block_lt_of_cell? w _ hw333_0)).trans hw333_0),((HB.out.cell (World.block_lt_of_cell? w _ hw333_1)).trans hw333_1),((HB.out.cell (World.block_lt_of_cell? w _ hw333_2)).trans hw333_2)⟩ (fun hHeld => ?_);refine with_tabW impl_AddReading.tab4 impl_AddReading.bits4 (fun HT_ HW_ => ?_)
        generalize wr.drew = w12 at BK331 HB hx333_0 hx333_1 hx333_2 hHeld ⊢
        refine pure_ (i:=0) (N:=some 11) (v:=?_) (a':=?_) #[true,false,false,false,false,false,false,false,false,false,false,false,false,false] rfl rfl (any_of HT_.out (by kernel_rfl)) (fun _ _ _ h => h) (Or.inl ⟨by rfl, ?_⟩) ?_ ?_
        rotate_left
        ·intro w'
         go_simp
         with_reducible rfl
        rotate_left
        ·simp only [Act.put,sA_,s0_,s1_,i64_w,i32_w]
         rfl
        refine pure_ (i:=1) (N:=some 12) (v:=?_) (a':=?_) #[true,true,false,false,false,false,false,false,false,false,false,false,false,false] rfl rfl (any_of HT_.out (by kernel_rfl)) (fun _ _ _ h => h) (Or.inl ⟨by rfl, ?_⟩) ?_ ?_
        rotate_left
        ·intro w'
         go_simp
         with_reducible rfl
        rotate_left
        ·simp only [Act.put,sA_,s0_,s1_,i64_w,i32_w]
         rfl
        refine pure_ (i:=2) (N:=some 13) (v:=?_) (a':=?_) #[true,true,true,false,false,false,false,false,false,false,false,false,false,false] rfl rfl (any_of HT_.out (by kernel_rfl)) (fun _ _ _ h => h) (Or.inl ⟨by rfl, ?_⟩) ?_ ?_
        rotate_left
        ·intro w'
         go_simp
         with_reducible rfl
        rotate_left
        ·simp only [Act.put,sA_,s0_,s1_,i64_w,i32_w]
         rfl
        refine pure_ (i:=3) (N:=some 14) (v:=?_) (a':=?_) #[true,true,true,true,false,false,false,false,false,false,false,false,false,false] rfl rfl (any_of HT_.out (by kernel_rfl)) (fun _ _ _ h => h) (Or.inl ⟨by rfl, ?_⟩) ?_ ?_
        rotate_left
        ·intro w'
         go_simp
         with_reducible rfl
        rotate_left
        ·simp only [Act.put,sA_,s0_,s1_,i64_w,i32_w]
         rfl
        refine pure_ (i:=4) (N:=some 15) (v:=?_) (a':=?_) #[true,true,true,true,true,false,false,false,false,false,false,false,false,false] rfl rfl (any_of HT_.out (by kernel_rfl)) (fun _ _ _ h => h) (Or.inl ⟨by rfl, ?_⟩) ?_ ?_
        rotate_left
        ·intro w'
         go_simp
         with_reducible rfl
        rotate_left
        ·simp only [Act.put,sA_,s0_,s1_,i64_w,i32_w]
         rfl
        refine pure_ (i:=5) (N:=some 16) (v:=?_) (a':=?_) #[true,true,true,true,true,true,false,false,false,false,false,false,false,false] rfl rfl (any_of HT_.out (by kernel_rfl)) (fun _ _ _ h => h) (Or.inl ⟨by rfl, ?_⟩) ?_ ?_
        rotate_left
        ·intro w'
         go_simp
         with_reducible rfl
        rotate_left
        ·simp only [Act.put,sA_,s0_,s1_,i64_w,i32_w]
         rfl
        refine pure_ (i:=6) (N:=some 17) (v:=?_) (a':=?_) #[true,true,true,true,true,true,true,false,false,false,false,false,false,false] rfl rfl (any_of HT_.out (by kernel_rfl)) (fun _ _ _ h => h) (Or.inl ⟨by rfl, ?_⟩) ?_ ?_
        rotate_left
        ·intro w'
         go_simp
         with_reducible rfl
        rotate_left
        ·simp only [Act.put,sA_,s0_,s1_,i64_w,i32_w]
         rfl
        refine pure_ (i:=7) (N:=some 18) (v:=?_) (a':=?_) #[true,true,true,true,true,true,true,true,false,false,false,false,false,false] rfl rfl (any_of HT_.out (by kernel_rfl)) (fun _ _ _ h => h) (Or.inl ⟨by rfl, ?_⟩) ?_ ?_
        rotate_left
        ·intro w'
         go_simp
         with_reducible rfl
        rotate_left
        ·simp only [Act.put,sA_,s0_,s1_,i64_w,i32_w]
         rfl
        refine pure_ (i:=8) (N:=some 19) (v:=?_) (a':=?_) #[true,true,true,true,true,true,true,true,true,false,false,false,false,false] rfl rfl (any_of HT_.out (by kernel_rfl)) (fun _ _ _ h => h) (Or.inl ⟨by rfl, ?_⟩) ?_ ?_
        rotate_left
        ·intro w'
         go_simp
         with_reducible rfl
        rotate_left
        ·simp only [Act.put,sA_,s0_,s1_,i64_w,i32_w]
         rfl
        refine pure_ (i:=10) (N:=some 21) (v:=?_) (a':=?_) #[true,true,true,true,true,true,true,true,true,false,true,false,false,false] rfl rfl (any_of HT_.out (by kernel_rfl)) (fun _ _ _ h => h) (Or.inl ⟨by rfl, ?_⟩) ?_ ?_
        rotate_left
        ·intro w'
         go_simp
         with_reducible rfl
        rotate_left
        ·simp only [Act.put,sA_,s0_,s1_,i64_w,i32_w]
         rfl
        refine take_ (i:=9) (N:=some 20) (v:=?_) (a':=?_) #[true,true,true,true,true,true,true,true,true,true,true,false,false,false] rfl rfl (take_ofW HT_.out HW_.out (by kernel_rfl)) (fun _ _ _ h => h) (Or.inl ⟨by rfl, ?_⟩) hHeld ?_ ?_
        rotate_left
        ·rintro w' ⟨s0,s1,s2,s3,s4,s5⟩
         go_simp
         with_reducible rfl
        rotate_left
        ·simp only [Act.put,sA_,s0_,s1_,i64_w,i32_w]
         rfl
        refine take_ (i:=11) (N:=some 22) (v:=?_) (a':=?_) #[true,true,true,true,true,true,true,true,true,true,true,true,false,false] rfl rfl (take_ofW HT_.out HW_.out (by kernel_rfl)) (fun _ _ _ h => h) (Or.inl ⟨by rfl, ?_⟩) hHeld ?_ ?_
        rotate_left
        ·rintro w' ⟨s0,s1,s2,s3,s4,s5⟩
         go_simp
         with_reducible rfl
        rotate_left
        ·simp only [Act.put,sA_,s0_,s1_,i64_w,i32_w]
         rfl
        refine pure_ (i:=12) (N:=some 23) (v:=?_) (a':=?_) #[true,true,true,true,true,true,true,true,true,true,true,true,true,false] rfl rfl (any_of HT_.out (by kernel_rfl)) (fun _ _ _ h => h) (Or.inl ⟨by rfl, ?_⟩) ?_ ?_
        rotate_left
        ·intro w'
         go_simp
         with_reducible rfl
        rotate_left
        ·simp only [Act.put,sA_,s0_,s1_,i64_w,i32_w]
         rfl
        refine pure_ (i:=13) (N:=some 24) (v:=?_) (a':=?_) #[true,true,true,true,true,true,true,true,true,true,true,true,true,true] rfl rfl (any_of HT_.out (by kernel_rfl)) (fun _ _ _ h => h) (Or.inl ⟨by rfl, ?_⟩) ?_ ?_
        rotate_left
        ·intro w'
         go_simp
         with_reducible rfl
        rotate_left
        ·simp only [Act.put,sA_,s0_,s1_,i64_w,i32_w]
         rfl
        refine done_ (done_of HT_.out (by kernel_rfl)) ?_
        try go_wp2
        go_meet
        case rel => exact ⟨_,(x6_1),(by rfl),H',⟨by have:=HK1.out;omega⟩,⟨by exact BK331.out⟩,⟨by exact HB.out⟩⟩
      ·rw [if_neg c9] at H
       exact absurd H (by simp)
     ·rw [if_neg c8] at H
      have c8b0 : decide (x6_1 < (l0.length : Int)) = false:=decide_eq_false c8
      clear c8
      (skip)
      have H':=Aside0.mk H
      clear H
      try go_wp2
      have n0_:=Aside0.mk (blk_drew BK331.out)
      have n1_:=Aside0.mk (below_drew1 HB.out)
      clear BK331
      clear HB
      have BK331:=n0_
      have HB:=n1_
      clear n0_ n1_
      refine start_ (n:=14) (S:=fun w' => True) (ds := []) #[false,false,false,false,false,false,false,false,false,false,false,false,false,false] (by kernel_rfl) rfl rfl trivial (fun hHeld => ?_);refine with_tabW impl_AddReading.tab4 impl_AddReading.bits4 (fun HT_ HW_ => ?_)
      generalize wr.drew = w13 at BK331 HB hHeld ⊢
      refine pure_ (i:=0) (N:=some 11) (v:=?_) (a':=?_) #[true,false,false,false,false,false,false,false,false,false,false,false,false,false] rfl rfl (any_of HT_.out (by kernel_rfl)) (fun _ _ _ h => h) (Or.inl ⟨by rfl, ?_⟩) ?_ ?_
      rotate_left
      ·intro w'
       go_simp
       with_reducible rfl
      rotate_left
      ·simp only [Act.put,sA_,s0_,s1_,i64_w,i32_w]
       rfl
      refine pure_ (i:=1) (N:=some 12) (v:=?_) (a':=?_) #[true,true,false,false,false,false,false,false,false,false,false,false,false,false] rfl rfl (any_of HT_.out (by kernel_rfl)) (fun _ _ _ h => h) (Or.inl ⟨by rfl, ?_⟩) ?_ ?_
      rotate_left
      ·intro w'
       go_simp
       with_reducible rfl
      rotate_left
      ·simp only [Act.put,sA_,s0_,s1_,i64_w,i32_w]
       rfl
      refine pure_ (i:=2) (N:=some 13) (v:=?_) (a':=?_) #[true,true,true,false,false,false,false,false,false,false,false,false,false,false] rfl rfl (any_of HT_.out (by kernel_rfl)) (fun _ _ _ h => h) (Or.inl ⟨by rfl, ?_⟩) ?_ ?_
      rotate_left
      ·intro w'
       go_simp
       with_reducible rfl
      rotate_left
      ·simp only [Act.put,sA_,s0_,s1_,i64_w,i32_w]
       rfl
      refine pure_ (i:=3) (N:=some 14) (v:=?_) (a':=?_) #[true,true,true,true,false,false,false,false,false,false,false,false,false,false] rfl rfl (any_of HT_.out (by kernel_rfl)) (fun _ _ _ h => h) (Or.inl ⟨by rfl, ?_⟩) ?_ ?_
      rotate_left
      ·intro w'
       go_simp
       with_reducible rfl
      rotate_left
      ·simp only [Act.put,sA_,s0_,s1_,i64_w,i32_w]
       rfl
      refine pure_ (i:=4) (N:=some 15) (v:=?_) (a':=?_) #[true,true,true,true,true,false,false,false,false,false,false,false,false,false] rfl rfl (any_of HT_.out (by kernel_rfl)) (fun _ _ _ h => h) (Or.inl ⟨by rfl, ?_⟩) ?_ ?_
      rotate_left
      ·intro w'
       go_simp
       with_reducible rfl
      rotate_left
      ·simp only [Act.put,sA_,s0_,s1_,i64_w,i32_w]
       rfl
      refine pure_ (i:=5) (N:=some 16) (v:=undef) (a':=?_) #[true,true,true,true,true,true,false,false,false,false,false,false,false,false] rfl rfl (any_of HT_.out (by kernel_rfl)) (fun _ _ _ h => h) (Or.inr ⟨by rfl,rfl⟩) ?_ ?_
      rotate_left
      ·simp only [Act.put,sA_,s0_,s1_,i64_w,i32_w]
       rfl
      refine pure_ (i:=6) (N:=some 17) (v:=undef) (a':=?_) #[true,true,true,true,true,true,true,false,false,false,false,false,false,false] rfl rfl (any_of HT_.out (by kernel_rfl)) (fun _ _ _ h => h) (Or.inr ⟨by rfl,rfl⟩) ?_ ?_
      rotate_left
      ·simp only [Act.put,sA_,s0_,s1_,i64_w,i32_w]
       rfl
      refine pure_ (i:=7) (N:=some 18) (v:=undef) (a':=?_) #[true,true,true,true,true,true,true,true,false,false,false,false,false,false] rfl rfl (any_of HT_.out (by kernel_rfl)) (fun _ _ _ h => h) (Or.inr ⟨by rfl,rfl⟩) ?_ ?_
      rotate_left
      ·simp only [Act.put,sA_,s0_,s1_,i64_w,i32_w]
       rfl
      refine pure_ (i:=8) (N:=some 19) (v:=undef) (a':=?_) #[true,true,true,true,true,true,true,true,true,false,false,false,false,false] rfl rfl (any_of HT_.out (by kernel_rfl)) (fun _ _ _ h => h) (Or.inr ⟨by rfl,rfl⟩) ?_ ?_
      rotate_left
      ·simp only [Act.put,sA_,s0_,s1_,i64_w,i32_w]
       rfl
      refine pure_ (i:=9) (N:=some 20) (v:=undef) (a':=?_) #[true,true,true,true,true,true,true,true,true,true,false,false,false,false] rfl rfl (any_of HT_.out (by kernel_rfl)) (fun _ _ _ h => h) (Or.inr ⟨by rfl,rfl⟩) ?_ ?_
      rotate_left
      ·simp only [Act.put,sA_,s0_,s1_,i64_w,i32_w]
       rfl
      refine pure_ (i:=10) (N:=some 21) (v:=undef) (a':=?_) #[true,true,true,true,true,true,true,true,true,true,true,false,false,false] rfl rfl (any_of HT_.out (by kernel_rfl)) (fun _ _ _ h => h) (Or.inr ⟨by rfl,rfl⟩) ?_ ?_
      rotate_left
      ·simp only [Act.put,sA_,s0_,s1_,i64_w,i32_w]
       rfl
      refine pure_ (i:=11) (N:=some 22) (v:=undef) (a':=?_) #[true,true,true,true,true,true,true,true,true,true,true,true,false,false] rfl rfl (any_of HT_.out (by kernel_rfl)) (fun _ _ _ h => h) (Or.inr ⟨by rfl,rfl⟩) ?_ ?_
      rotate_left
      ·simp only [Act.put,sA_,s0_,s1_,i64_w,i32_w]
       rfl
      refine pure_ (i:=12) (N:=some 23) (v:=undef) (a':=?_) #[true,true,true,true,true,true,true,true,true,true,true,true,true,false] rfl rfl (any_of HT_.out (by kernel_rfl)) (fun _ _ _ h => h) (Or.inr ⟨by rfl,rfl⟩) ?_ ?_
      rotate_left
      ·simp only [Act.put,sA_,s0_,s1_,i64_w,i32_w]
       rfl
      refine pure_ (i:=13) (N:=some 24) (v:=?_) (a':=?_) #[true,true,true,true,true,true,true,true,true,true,true,true,true,true] rfl rfl (any_of HT_.out (by kernel_rfl)) (fun _ _ _ h => h) (Or.inl ⟨by rfl, ?_⟩) ?_ ?_
      rotate_left
      ·intro w'
       go_simp
       with_reducible rfl
      rotate_left
      ·simp only [Act.put,sA_,s0_,s1_,i64_w,i32_w]
       rfl
      refine done_ (done_of HT_.out (by kernel_rfl)) ?_
      try go_wp2
      go_meet
      case rel => exact ⟨_,(x6_1),(by rfl),H',⟨by have:=HK1.out;omega⟩,⟨by exact BK331.out⟩,⟨by exact HB.out⟩⟩
  case rest =>
   clear HC5
   try clear c1
   try clear c2
   try clear p2
   try clear p3
   try clear q3
   try clear hx3
   try clear c4
   try clear p6
   try clear c8
   try clear c8b0
   try clear c9
   try clear c9b0
   try clear c10
   try clear c10b0
   try clear hx333_0
   try clear hx333_1
   try clear hx333_2
   try clear p2
   try clear p333
   try clear q333
   obtain ⟨kq,x6_4,rfl,HA,HJ4,BK331,HB⟩ := hcut
   cases kq with
   | zero => exact absurd HA.out (by simp [impl_AddReading.j1])
   | succ kj4 =>
    have H:=HA.out
    clear HA
    simp only [impl_AddReading.j1] at H
    replace H:=Option.bind_eq_some_iff.mp H
    obtain ⟨t334,A140,H⟩ := H
    replace H : ((slices_Insert_impl_Reading.f t334 x6_4 (([(⟨a1_0,a1_1,a1_2⟩ : S41)] : List (S41)))).bind fun t340 => ((impl_IsValidReadings.f kj4 t340).bind fun t343 => (if t343 = true then (some (t340,true)) else (some (([] : List (S41)),false))))) = some (r1,r2):=H
    have A14:=Aside0.mk A140
    clear A140
    obtain ⟨y337,hy337⟩ : ∃ y_ : List (S41),y_ = (([(⟨a1_0,a1_1,a1_2⟩ : S41)] : List (S41))):=⟨_,rfl⟩
    replace H : ((slices_Insert_impl_Reading.f t334 x6_4 y337).bind fun t340 => ((impl_IsValidReadings.f kj4 t340).bind fun t343 => (if t343 = true then (some (t340,true)) else (some (([] : List (S41)),false))))) = some (r1,r2):=by (rw [hy337];with_reducible exact H)
    have Ny337:=Aside0.mk hy337
    clear hy337
    replace H:=Option.bind_eq_some_iff.mp H
    obtain ⟨t340,A150,H⟩ := H
    replace H : ((impl_IsValidReadings.f kj4 t340).bind fun t343 => (if t343 = true then (some (t340,true)) else (some (([] : List (S41)),false)))) = some (r1,r2):=H
    have A15:=Aside0.mk A150
    clear A150
    replace H:=Option.bind_eq_some_iff.mp H
    obtain ⟨t343,A160,H⟩ := H
    replace H : (if t343 = true then (some (t340,true)) else (some (([] : List (S41)),false))) = some (r1,r2):=H
    have A16:=Aside0.mk A160
    clear A160
    by_cases c17 : t343 = true
    ·subst c17
     have H1 : (some (t340,true)) = some (r1,r2):=by rw [if_pos rfl] at H;exact H
     clear H
     have H:=H1
     clear H1
     simp only [Option.some.injEq,Prod.mk.injEq] at H
     obtain ⟨rfl,rfl⟩ := H
     try go_wp2
     have n0_:=Aside0.mk (blk_drew BK331.out)
     have n1_:=Aside0.mk (below_drew1 HB.out)
     clear BK331
     clear HB
     have BK331:=n0_
     have HB:=n1_
     clear n0_ n1_
     refine start_ (n:=7) (S:=fun w' => w'.cell? ⟨gb331,0,none⟩ = some (.int .i64 a1_0) ∧ w'.cell? ⟨gb331,1,none⟩ = some (.int .i64 a1_1) ∧ w'.cell? ⟨gb331,2,none⟩ = some (.bool a1_2)) (ds := []) #[false,false,false,false,false,false,false] (by kernel_rfl) rfl rfl ⟨(blk_cell BK331.out 0).trans rfl,(blk_cell BK331.out 1).trans rfl,(blk_cell BK331.out 2).trans rfl⟩ (fun hHeld => ?_)
     generalize wc.drew = w18 at BK331 HB hHeld ⊢
     refine pure_ (i:=0) (N:=some 27) (v:=?_) (a':=?_) #[true,false,false,false,false,false,false] rfl rfl (by kernel_rfl) (fun _ _ _ h => h) (Or.inl ⟨by rfl, ?_⟩) ?_ ?_
     rotate_left
     ·intro w'
      go_simp
      with_reducible rfl
     rotate_left
     ·simp only [Act.put,sA_,s0_,s1_,i64_w,i32_w]
      rfl
     refine pure_ (i:=2) (N:=some 29) (v:=?_) (a':=?_) #[true,false,true,false,false,false,false] rfl rfl (by kernel_rfl) (fun _ _ _ h => h) (Or.inl ⟨by rfl, ?_⟩) ?_ ?_
     rotate_left
     ·intro w'
      go_simp
      with_reducible rfl
     rotate_left
     ·simp only [Act.put,sA_,s0_,s1_,i64_w,i32_w]
      rfl
     refine take_ (i:=3) (N:=some 30) (v:=?_) (a':=?_) #[true,false,true,true,false,false,false] rfl rfl (by kernel_rfl) (fun _ _ _ h => h) (Or.inl ⟨by rfl, ?_⟩) hHeld ?_ ?_
     rotate_left
     ·rintro w' ⟨s0,s1,s2⟩
      go_simp
      with_reducible rfl
     rotate_left
     ·simp only [Act.put,sA_,s0_,s1_,i64_w,i32_w]
      rfl
     refine join_ (σ:=Value × Value) 2 #[true,true,true,true,true,false,false] (fun s_ => [(28,s_.1),(31,s_.2)]) (fun s_ w' => (w'.cell? ⟨gb331,0,none⟩ = some (.int .i64 a1_0) ∧ w'.cell? ⟨gb331,1,none⟩ = some (.int .i64 a1_1) ∧ w'.cell? ⟨gb331,2,none⟩ = some (.bool a1_2)) ∧ (Kd.R k41 41 w' w.heap.size (fun k_ => some k_ ≠ (s_.2 : Value).ownBlock ∧ k_ ≠ gb331) s_.1 t334) ∧ (Kd.R k41 41 w' w.heap.size (fun k_ => some k_ ≠ (s_.1 : Value).ownBlock ∧ k_ ≠ gb331) s_.2 y337) ∧ (w'.heap[gb331]? = some (.cells #[.int .i64 a1_0, .int .i64 a1_1, .bool a1_2] 41 (0,0))) ∧ (Below w.heap.size w w')) ?_ ?_
     rotate_left
     ·intro hCont
      refine two_ (i:=1) (j:=4) (Ni:=some 28) (Nj:=some 31) #[true,true,true,true,false,false,false] #[true,false,true,true,true,false,false] rfl rfl rfl rfl (by kernel_rfl) (by decide) (by decide) (fun K hK => ?_) (fun K hK => ?_)
      ·skip
       refine goes_ Tryd.func38 (by kernel_rfl) rfl #[.slice A0 l0.length c0] (by rfl) rfl rfl (by (try simp only [List.map_toArray,List.map_cons,List.map_nil]);rfl) ?_
       with_reducible refine (slices_Clone_impl_Reading.calls _ _ l0 t334 _ ?side1 ?side2 A14.out).mono ?_
       (case side1 => repeat (exact (Kd.C_below HR0.out HB.out)))
       (case side2 => exact HC0.out)
       rintro e w19 ⟨v335,rfl,ho0,hb⟩
       refine ⟨_,rfl, ?_⟩
       have n0_:=Aside0.mk (Kd.R_lower (Kd.R_newB ho0 (g:=gb331) (o := .cells #[.int .i64 a1_0, .int .i64 a1_1, .bool a1_2] 41 (0,0)) (by exact BK331.out)) (below_size (by exact HB.out)))
       have n1_:=Aside0.mk (blk_below (g:=gb331) (o := .cells #[.int .i64 a1_0, .int .i64 a1_1, .bool a1_2] 41 (0,0)) (by exact BK331.out) hb)
       have n2_:=Aside0.mk (below_step (by exact HB.out) hb)
       clear BK331
       clear HB
       have HO336:=n0_
       have BK331:=n1_
       have HB:=n2_
       clear n0_ n1_ n2_
       (try clear hb)
       (skip)
       (skip)
       (skip)
       (try clear ho0)
       refine hK.out _ _ ⟨(blk_cell BK331.out 0).trans rfl,(blk_cell BK331.out 1).trans rfl,(blk_cell BK331.out 2).trans rfl⟩ (fun hHeld => ?_)
       clear hK K
       refine norm_ (a':=?_) ?_ ?_
       rotate_left
       ·show Act.put _ (some 28) _ = _
        simp only [Act.put,sA_,s0_,s1_,i64_w,i32_w]
        rfl
       refine one_ (i:=4) (N:=some 31) #[true,true,true,true,true,false,false] rfl rfl (by kernel_rfl) (by decide) (fun K hK => ?_)
       refine Kd.R_lit_step k41 _ 41 ?hg (N:=31) ?hd (xs:=([(⟨a1_0,a1_1,a1_2⟩ : S41)] : List (S41))) (inner := [.int .i64 a1_0, .int .i64 a1_1, .bool a1_2]) (ok:=fun _ => True) (okp:=fun _ => True) ?hr ?hp (fun _ hk => hk) trivial (Below.refl _ _) (Nat.le_refl _) (by simp) ?_;(case hd => rfl);(case hg => rfl);(case hr => (go_simp;done));(case hp => exact (Reps.c3 (show Kd.M k41 _ _ _ (⟨a1_0,a1_1,a1_2⟩ : S41) [.int .i64 a1_0, .int .i64 a1_1, .bool a1_2] from (k41_mkM _ _ _ (⟨a1_0,a1_1,a1_2⟩ : S41) )) (Reps.none _ _)))
       intro v338 w20 ho21 hb hg_ hnew_
       clear hg_ hnew_
       (rw [← Ny337.out] at ho21)
       have n0_:=Aside0.mk (Kd.R_elder' (by exact HO336.out) (Kd.R_base ho21) hb)
       have n1_:=Aside0.mk (Kd.R_lower (Kd.R_newB (Kd.R_new' ho21 (Kd.R_lt (by exact HO336.out))) (g:=gb331) (o := .cells #[.int .i64 a1_0, .int .i64 a1_1, .bool a1_2] 41 (0,0)) (by exact BK331.out)) (below_size (by exact HB.out)))
       have n2_:=Aside0.mk (blk_below (g:=gb331) (o := .cells #[.int .i64 a1_0, .int .i64 a1_1, .bool a1_2] 41 (0,0)) (by exact BK331.out) hb)
       have n3_:=Aside0.mk (below_step (by exact HB.out) hb)
       clear HO336
       clear BK331
       clear HB
       have HO336:=n0_
       have HO339:=n1_
       have BK331:=n2_
       have HB:=n3_
       clear n0_ n1_ n2_ n3_
       clear hb ho21
       refine hK.out _ _ ⟨(blk_cell BK331.out 0).trans rfl,(blk_cell BK331.out 1).trans rfl,(blk_cell BK331.out 2).trans rfl⟩ (fun hHeld => ?_)
       clear hK K
       refine norm_ (a':=?_) ?_ ?_
       rotate_left
       ·show Act.put _ (some 31) _ = _
        simp only [Act.put,sA_,s0_,s1_,i64_w,i32_w]
        rfl
       exact norm_ (by simp only [putAll,Act.put,sA_,s0_,s1_]) (hCont (v335,v338) _ ⟨hHeld,(by exact Kd.R_mono HO336.out (fun _ hk => ⟨hk.2,hk.1.2⟩)),(by exact Kd.R_mono HO339.out (fun _ hk => ⟨hk.1.2,hk.2⟩)),(by exact BK331.out),(by exact HB.out)⟩)
      ·skip
       refine Kd.R_lit_step k41 _ 41 ?hg (N:=31) ?hd (xs:=([(⟨a1_0,a1_1,a1_2⟩ : S41)] : List (S41))) (inner := [.int .i64 a1_0, .int .i64 a1_1, .bool a1_2]) (ok:=fun _ => True) (okp:=fun _ => True) ?hr ?hp (fun _ hk => hk) trivial (Below.refl _ _) (Nat.le_refl _) (by simp) ?_;(case hd => rfl);(case hg => rfl);(case hr => (go_simp;done));(case hp => exact (Reps.c3 (show Kd.M k41 _ _ _ (⟨a1_0,a1_1,a1_2⟩ : S41) [.int .i64 a1_0, .int .i64 a1_1, .bool a1_2] from (k41_mkM _ _ _ (⟨a1_0,a1_1,a1_2⟩ : S41) )) (Reps.none _ _)))
       intro v338 w19 ho20 hb hg_ hnew_
       clear hg_ hnew_
       (rw [← Ny337.out] at ho20)
       have n0_:=Aside0.mk (Kd.R_lower (Kd.R_newB ho20 (g:=gb331) (o := .cells #[.int .i64 a1_0, .int .i64 a1_1, .bool a1_2] 41 (0,0)) (by exact BK331.out)) (below_size (by exact HB.out)))
       have n1_:=Aside0.mk (blk_below (g:=gb331) (o := .cells #[.int .i64 a1_0, .int .i64 a1_1, .bool a1_2] 41 (0,0)) (by exact BK331.out) hb)
       have n2_:=Aside0.mk (below_step (by exact HB.out) hb)
       clear BK331
       clear HB
       have HO339:=n0_
       have BK331:=n1_
       have HB:=n2_
       clear n0_ n1_ n2_
       clear hb ho20
       refine hK.out _ _ ⟨(blk_cell BK331.out 0).trans rfl,(blk_cell BK331.out 1).trans rfl,(blk_cell BK331.out 2).trans rfl⟩ (fun hHeld => ?_)
       clear hK K
       refine norm_ (a':=?_) ?_ ?_
       rotate_left
       ·show Act.put _ (some 31) _ = _
        simp only [Act.put,sA_,s0_,s1_,i64_w,i32_w]
        rfl
       refine one_ (i:=1) (N:=some 28) #[true,true,true,true,true,false,false] rfl rfl (by kernel_rfl) (by decide) (fun K hK => ?_)
       refine goes_ Tryd.func38 (by kernel_rfl) rfl #[.slice A0 l0.length c0] (by rfl) rfl rfl (by (try simp only [List.map_toArray,List.map_cons,List.map_nil]);rfl) ?_
       with_reducible refine (slices_Clone_impl_Reading.calls _ _ l0 t334 _ ?side1 ?side2 A14.out).mono ?_
       (case side1 => repeat (exact (Kd.C_below HR0.out HB.out)))
       (case side2 => exact HC0.out)
       rintro e w21 ⟨v335,rfl,ho0,hb⟩
       refine ⟨_,rfl, ?_⟩
       have n0_:=Aside0.mk (Kd.R_elder' (by exact HO339.out) (Kd.R_base ho0) hb)
       have n1_:=Aside0.mk (Kd.R_lower (Kd.R_newB (Kd.R_new' ho0 (Kd.R_lt (by exact HO339.out))) (g:=gb331) (o := .cells #[.int .i64 a1_0, .int .i64 a1_1, .bool a1_2] 41 (0,0)) (by exact BK331.out)) (below_size (by exact HB.out)))
       have n2_:=Aside0.mk (blk_below (g:=gb331) (o := .cells #[.int .i64 a1_0, .int .i64 a1_1, .bool a1_2] 41 (0,0)) (by exact BK331.out) hb)
       have n3_:=Aside0.mk (below_step (by exact HB.out) hb)
       clear HO339
       clear BK331
       clear HB
       have HO339:=n0_
       have HO336:=n1_
       have BK331:=n2_
       have HB:=n3_
       clear n0_ n1_ n2_ n3_
       (try clear hb)
       (skip)
       (skip)
       (skip)
       (try clear ho0)
       refine hK.out _ _ ⟨(blk_cell BK331.out 0).trans rfl,(blk_cell BK331.out 1).trans rfl,(blk_cell BK331.out 2).trans rfl⟩ (fun hHeld => ?_)
       clear hK K
       refine norm_ (a':=?_) ?_ ?_
       rotate_left
       ·show Act.put _ (some 28) _ = _
        simp only [Act.put,sA_,s0_,s1_,i64_w,i32_w]
        rfl
       exact norm_ (by simp only [putAll,Act.put,sA_,s0_,s1_]) (hCont (v335,v338) _ ⟨hHeld,(by exact Kd.R_mono HO336.out (fun _ hk => ⟨hk.1.2,hk.2⟩)),(by exact Kd.R_mono HO339.out (fun _ hk => ⟨hk.2,hk.1.2⟩)),(by exact BK331.out),(by exact HB.out)⟩)
     rintro ⟨v335,v338⟩ w22 ⟨hS_,h0_,h1_,h2_,h3_⟩
     have n0_ : Aside0 (Kd.R k41 41 w22 w.heap.size (fun k_ => some k_ ≠ (v338 : Value).ownBlock ∧ k_ ≠ gb331) v335 t334):=⟨h0_⟩
     have n1_ : Aside0 (Kd.R k41 41 w22 w.heap.size (fun k_ => some k_ ≠ (v335 : Value).ownBlock ∧ k_ ≠ gb331) v338 y337):=⟨h1_⟩
     have n2_ : Aside0 (w22.heap[gb331]? = some (.cells #[.int .i64 a1_0, .int .i64 a1_1, .bool a1_2] 41 (0,0))):=⟨h2_⟩
     have n3_ : Aside0 (Below w.heap.size w w22):=⟨h3_⟩
     clear BK331
     clear HB
     clear h0_ h1_ h2_ h3_
     have HO336:=n0_
     have HO339:=n1_
     have BK331:=n2_
     have HB:=n3_
     clear n0_ n1_ n2_ n3_
     have hHeld : w22.cell? ⟨gb331,0,none⟩ = some (.int .i64 a1_0) ∧ w22.cell? ⟨gb331,1,none⟩ = some (.int .i64 a1_1) ∧ w22.cell? ⟨gb331,2,none⟩ = some (.bool a1_2):=hS_
     obtain ⟨Ao23,co23,eo23⟩ := Kd.R_slice HO336.out
     (subst eo23)
     obtain ⟨Ao24,co24,eo24⟩ := Kd.R_slice HO339.out
     (subst eo24)
     refine norm_ (a':=?_) ?_ ?_
     rotate_left
     ·simp only [putAll,Act.put,sA_,s0_,s1_]
      rfl
     refine one_ (i:=5) (N:=some 32) #[true,true,true,true,true,true,false] rfl rfl (by kernel_rfl) (by decide) (fun K hK => ?_)
     refine goes_ Tryd.func37 (by kernel_rfl) rfl #[.slice Ao23 t334.length co23, .int .i64 x6_4, .slice Ao24 y337.length co24] (by rfl) rfl rfl (by (try simp only [List.map_toArray,List.map_cons,List.map_nil]);rfl) ?_
     with_reducible refine (slices_Insert_impl_Reading.calls (fun k_ => some k_ = (.slice Ao23 t334.length co23 : Value).ownBlock) (.slice Ao23 t334.length co23) t334 x6_4 (fun k_ => some k_ = (.slice Ao24 y337.length co24 : Value).ownBlock) (.slice Ao24 y337.length co24) y337 t340 w _ ?side1 ?side2 ?side3 ?side4 ?side5 A15.out).mono ?_
     (case side1 => exact HB.out)
     (case side2 => exact Kd.R_tight rfl HO336.out)
     (case side3 => exact fun k_ e_ => (HO336.out.1 k_ e_.symm).1)
     (case side4 => exact Kd.R_tight rfl HO339.out)
     (case side5 => exact fun k_ e_ => (HO339.out.1 k_ e_.symm).1)
     rintro e w25 ⟨v341,rfl,ho0,hb,hkp⟩
     refine ⟨_,rfl, ?_⟩
     have n0_:=Aside0.mk (blk_kept (by exact BK331.out) hkp (fun hs_ => Or.elim hs_ (fun e_ => (fun e_ => (Kd.R_away HO336.out (fun _ hk => hk.2)) e_) e_) (fun e_ => (fun e_ => (Kd.R_away HO339.out (fun _ hk => hk.2)) e_) e_)))
     have n1_:=Aside0.mk (Kd.R_mono (ok':=fun k_ => k_ ≠ gb331) ho0 (fun k_ hk_ => Or.elim hk_ (fun hs_ => Or.elim hs_ (fun hs_ => fun e_ => (Kd.R_away HO336.out (fun _ hk => hk.2)) (by rw [← e_];exact hs_)) (fun hs_ => fun e_ => (Kd.R_away HO339.out (fun _ hk => hk.2)) (by rw [← e_];exact hs_))) (fun hn_ => (Kd.freshB (g:=gb331) (o := .cells #[.int .i64 a1_0, .int .i64 a1_1, .bool a1_2] 41 (0,0)) (by exact BK331.out) k_ hn_))))
     have n2_:=Aside0.mk (hb)
     clear BK331
     clear HB
     clear HO336
     clear HO339
     have BK331:=n0_
     have HO342:=n1_
     have HB:=n2_
     clear n0_ n1_ n2_
     (try clear hb)
     (try clear hkp)
     (try clear ho0)
     refine hK.out _ _ ⟨(blk_cell BK331.out 0).trans rfl,(blk_cell BK331.out 1).trans rfl,(blk_cell BK331.out 2).trans rfl⟩ (fun hHeld => ?_)
     clear hK K
     refine norm_ (a':=?_) ?_ ?_
     rotate_left
     ·show Act.put _ (some 32) _ = _
      simp only [Act.put,sA_,s0_,s1_,i64_w,i32_w]
      rfl
     refine pure_ (i:=6) (N:=some 7) (v:=?_) (a':=?_) #[true,true,true,true,true,true,true] rfl rfl (by kernel_rfl) (fun _ _ _ h => h) (Or.inl ⟨by rfl, ?_⟩) ?_ ?_
     rotate_left
     ·intro w'
      go_simp
      with_reducible rfl
     rotate_left
     ·simp only [Act.put,sA_,s0_,s1_,i64_w,i32_w]
      rfl
     refine done_ (by kernel_rfl) ?_
     obtain ⟨Ao26,co26,eo26⟩ := Kd.R_slice HO342.out
     subst eo26
     try go_wp2_with (((with_reducible refine gate_callee (f:=22) rfl ?_);refine goesL_ (some 34) rfl rfl Tryd.func22 (by kernel_rfl) rfl #[.slice Ao26 t340.length co26] rfl (by (try simp only [List.map_toArray,List.map_cons,List.map_nil]);rfl) ?_;(with_reducible refine (impl_IsValidReadings.calls kj4 _ _ t340 true _ ?side1 ?side2 A16.out).mono ?_);(case side1 => repeat (exact (Kd.R_reads' HO342.out).2.2));(case side2 => exact (Kd.R_reads' HO342.out).2.1);rintro e w27 ⟨rfl,hb⟩;refine ⟨_,rfl, ?_⟩;have n0_:=Aside0.mk (Kd.R_below (by exact HO342.out) hb);have n1_:=Aside0.mk (blk_below (g:=gb331) (o := .cells #[.int .i64 a1_0, .int .i64 a1_1, .bool a1_2] 41 (0,0)) (by exact BK331.out) hb);have n2_:=Aside0.mk (below_step (by exact HB.out) hb);clear HO342;clear BK331;clear HB;have HO342:=n0_;have BK331:=n1_;have HB:=n2_;clear n0_ n1_ n2_;(try clear hb)))
     go_ret2
     exact ⟨_,by rfl,by exact Kd.R_mono HO342.out (fun _ hk => trivial),by exact HB.out⟩
    ·replace c17:=Bool.eq_false_iff.mpr c17
     subst c17
     have H1 : (some (([] : List (S41)),false)) = some (r1,r2):=by rw [if_neg (show ¬ (false = true) by decide)] at H;exact H
     clear H
     have H:=H1
     clear H1
     simp only [Option.some.injEq,Prod.mk.injEq] at H
     obtain ⟨rfl,rfl⟩ := H
     try go_wp2
     have n0_:=Aside0.mk (blk_drew BK331.out)
     have n1_:=Aside0.mk (below_drew1 HB.out)
     clear BK331
     clear HB
     have BK331:=n0_
     have HB:=n1_
     clear n0_ n1_
     refine start_ (n:=7) (S:=fun w' => w'.cell? ⟨gb331,0,none⟩ = some (.int .i64 a1_0) ∧ w'.cell? ⟨gb331,1,none⟩ = some (.int .i64 a1_1) ∧ w'.cell? ⟨gb331,2,none⟩ = some (.bool a1_2)) (ds := []) #[false,false,false,false,false,false,false] (by kernel_rfl) rfl rfl ⟨(blk_cell BK331.out 0).trans rfl,(blk_cell BK331.out 1).trans rfl,(blk_cell BK331.out 2).trans rfl⟩ (fun hHeld => ?_)
     generalize wc.drew = w28 at BK331 HB hHeld ⊢
     refine pure_ (i:=0) (N:=some 27) (v:=?_) (a':=?_) #[true,false,false,false,false,false,false] rfl rfl (by kernel_rfl) (fun _ _ _ h => h) (Or.inl ⟨by rfl, ?_⟩) ?_ ?_
     rotate_left
     ·intro w'
      go_simp
      with_reducible rfl
     rotate_left
     ·simp only [Act.put,sA_,s0_,s1_,i64_w,i32_w]
      rfl
     refine pure_ (i:=2) (N:=some 29) (v:=?_) (a':=?_) #[true,false,true,false,false,false,false] rfl rfl (by kernel_rfl) (fun _ _ _ h => h) (Or.inl ⟨by rfl, ?_⟩) ?_ ?_
     rotate_left
     ·intro w'
      go_simp
      with_reducible rfl
     rotate_left
     ·simp only [Act.put,sA_,s0_,s1_,i64_w,i32_w]
      rfl
     refine take_ (i:=3) (N:=some 30) (v:=?_) (a':=?_) #[true,false,true,true,false,false,false] rfl rfl (by kernel_rfl) (fun _ _ _ h => h) (Or.inl ⟨by rfl, ?_⟩) hHeld ?_ ?_
     rotate_left
     ·rintro w' ⟨s0,s1,s2⟩
      go_simp
      with_reducible rfl
     rotate_left
     ·simp only [Act.put,sA_,s0_,s1_,i64_w,i32_w]
      rfl
     refine join_ (σ:=Value × Value) 2 #[true,true,true,true,true,false,false] (fun s_ => [(28,s_.1),(31,s_.2)]) (fun s_ w' => (w'.cell? ⟨gb331,0,none⟩ = some (.int .i64 a1_0) ∧ w'.cell? ⟨gb331,1,none⟩ = some (.int .i64 a1_1) ∧ w'.cell? ⟨gb331,2,none⟩ = some (.bool a1_2)) ∧ (Kd.R k41 41 w' w.heap.size (fun k_ => some k_ ≠ (s_.2 : Value).ownBlock ∧ k_ ≠ gb331) s_.1 t334) ∧ (Kd.R k41 41 w' w.heap.size (fun k_ => some k_ ≠ (s_.1 : Value).ownBlock ∧ k_ ≠ gb331) s_.2 y337) ∧ (w'.heap[gb331]? = some (.cells #[.int .i64 a1_0, .int .i64 a1_1, .bool a1_2] 41 (0,0))) ∧ (Below w.heap.size w w')) ?_ ?_
     rotate_left
     ·intro hCont
      refine two_ (i:=1) (j:=4) (Ni:=some 28) (Nj:=some 31) #[true,true,true,true,false,false,false] #[true,false,true,true,true,false,false] rfl rfl rfl rfl (by kernel_rfl) (by decide) (by decide) (fun K hK => ?_) (fun K hK => ?_)
      ·skip
       refine goes_ Tryd.func38 (by kernel_rfl) rfl #[.slice A0 l0.length c0] (by rfl) rfl rfl (by (try simp only [List.map_toArray,List.map_cons,List.map_nil]);rfl) ?_
       with_reducible refine (slices_Clone_impl_Reading.calls _ _ l0 t334 _ ?side1 ?side2 A14.out).mono ?_
       (case side1 => repeat (exact (Kd.C_below HR0.out HB.out)))
       (case side2 => exact HC0.out)
       rintro e w29 ⟨v335,rfl,ho0,hb⟩
       refine ⟨_,rfl, ?_⟩
       have n0_:=Aside0.mk (Kd.R_lower (Kd.R_newB ho0 (g:=gb331) (o := .cells #[.int .i64 a1_0, .int .i64 a1_1, .bool a1_2] 41 (0,0)) (by exact BK331.out)) (below_size (by exact HB.out)))
       have n1_:=Aside0.mk (blk_below (g:=gb331) (o := .cells #[.int .i64 a1_0, .int .i64 a1_1, .bool a1_2] 41 (0,0)) (by exact BK331.out) hb)
       have n2_:=Aside0.mk (below_step (by exact HB.out) hb)
       clear BK331
       clear HB
       have HO336:=n0_
       have BK331:=n1_
       have HB:=n2_
       clear n0_ n1_ n2_
       (try clear hb)
       (skip)
       (skip)
       (skip)
       (try clear ho0)
       refine hK.out _ _ ⟨(blk_cell BK331.out 0).trans rfl,(blk_cell BK331.out 1).trans rfl,(blk_cell BK331.out 2).trans rfl⟩ (fun hHeld => ?_)
       clear hK K
       refine norm_ (a':=?_) ?_ ?_
       rotate_left
       ·show Act.put _ (some 28) _ = _
        simp only [Act.put,sA_,s0_,s1_,i64_w,i32_w]
        rfl
       refine one_ (i:=4) (N:=some 31) #[true,true,true,true,true,false,false] rfl rfl (by kernel_rfl) (by decide) (fun K hK => ?_)
       refine Kd.R_lit_step k41 _ 41 ?hg (N:=31) ?hd (xs:=([(⟨a1_0,a1_1,a1_2⟩ : S41)] : List (S41))) (inner := [.int .i64 a1_0, .int .i64 a1_1, .bool a1_2]) (ok:=fun _ => True) (okp:=fun _ => True) ?hr ?hp (fun _ hk => hk) trivial (Below.refl _ _) (Nat.le_refl _) (by simp) ?_;(case hd => rfl);(case hg => rfl);(case hr => (go_simp;done));(case hp => exact (Reps.c3 (show Kd.M k41 _ _ _ (⟨a1_0,a1_1,a1_2⟩ : S41) [.int .i64 a1_0, .int .i64 a1_1, .bool a1_2] from (k41_mkM _ _ _ (⟨a1_0,a1_1,a1_2⟩ : S41) )) (Reps.none _ _)))
       intro v338 w30 ho31 hb hg_ hnew_
       clear hg_ hnew_
       (rw [← Ny337.out] at ho31)
       have n0_:=Aside0.mk (Kd.R_elder' (by exact HO336.out) (Kd.R_base ho31) hb)
       have n1_:=Aside0.mk (Kd.R_lower (Kd.R_newB (Kd.R_new' ho31 (Kd.R_lt (by exact HO336.out))) (g:=gb331) (o := .cells #[.int .i64 a1_0, .int .i64 a1_1, .bool a1_2] 41 (0,0)) (by exact BK331.out)) (below_size (by exact HB.out)))
       have n2_:=Aside0.mk (blk_below (g:=gb331) (o := .cells #[.int .i64 a1_0, .int .i64 a1_1, .bool a1_2] 41 (0,0)) (by exact BK331.out) hb)
       have n3_:=Aside0.mk (below_step (by exact HB.out) hb)
       clear HO336
       clear BK331
       clear HB
       have HO336:=n0_
       have HO339:=n1_
       have BK331:=n2_
       have HB:=n3_
       clear n0_ n1_ n2_ n3_
       clear hb ho31
       refine hK.out _ _ ⟨(blk_cell BK331.out 0).trans rfl,(blk_cell BK331.out 1).trans rfl,(blk_cell BK331.out 2).trans rfl⟩ (fun hHeld => ?_)
       clear hK K
       refine norm_ (a':=?_) ?_ ?_
       rotate_left
       ·show Act.put _ (some 31) _ = _
        simp only [Act.put,sA_,s0_,s1_,i64_w,i32_w]
        rfl
       exact norm_ (by simp only [putAll,Act.put,sA_,s0_,s1_]) (hCont (v335,v338) _ ⟨hHeld,(by exact Kd.R_mono HO336.out (fun _ hk => ⟨hk.2,hk.1.2⟩)),(by exact Kd.R_mono HO339.out (fun _ hk => ⟨hk.1.2,hk.2⟩)),(by exact BK331.out),(by exact HB.out)⟩)
      ·skip
       refine Kd.R_lit_step k41 _ 41 ?hg (N:=31) ?hd (xs:=([(⟨a1_0,a1_1,a1_2⟩ : S41)] : List (S41))) (inner := [.int .i64 a1_0, .int .i64 a1_1, .bool a1_2]) (ok:=fun _ => True) (okp:=fun _ => True) ?hr ?hp (fun _ hk => hk) trivial (Below.refl _ _) (Nat.le_refl _) (by simp) ?_;(case hd => rfl);(case hg => rfl);(case hr => (go_simp;done));(case hp => exact (Reps.c3 (show Kd.M k41 _ _ _ (⟨a1_0,a1_1,a1_2⟩ : S41) [.int .i64 a1_0, .int .i64 a1_1, .bool a1_2] from (k41_mkM _ _ _ (⟨a1_0,a1_1,a1_2⟩ : S41) )) (Reps.none _ _)))
       intro v338 w29 ho30 hb hg_ hnew_
       clear hg_ hnew_
       (rw [← Ny337.out] at ho30)
       have n0_:=Aside0.mk (Kd.R_lower (Kd.R_newB ho30 (g:=gb331) (o := .cells #[.int .i64 a1_0, .int .i64 a1_1, .bool a1_2] 41 (0,0)) (by exact BK331.out)) (below_size (by exact HB.out)))
       have n1_:=Aside0.mk (blk_below (g:=gb331) (o := .cells #[.int .i64 a1_0, .int .i64 a1_1, .bool a1_2] 41 (0,0)) (by exact BK331.out) hb)
       have n2_:=Aside0.mk (below_step (by exact HB.out) hb)
       clear BK331
       clear HB
       have HO339:=n0_
       have BK331:=n1_
       have HB:=n2_
       clear n0_ n1_ n2_
       clear hb ho30
       refine hK.out _ _ ⟨(blk_cell BK331.out 0).trans rfl,(blk_cell BK331.out 1).trans rfl,(blk_cell BK331.out 2).trans rfl⟩ (fun hHeld => ?_)
       clear hK K
       refine norm_ (a':=?_) ?_ ?_
       rotate_left
       ·show Act.put _ (some 31) _ = _
        simp only [Act.put,sA_,s0_,s1_,i64_w,i32_w]
        rfl
       refine one_ (i:=1) (N:=some 28) #[true,true,true,true,true,false,false] rfl rfl (by kernel_rfl) (by decide) (fun K hK => ?_)
       refine goes_ Tryd.func38 (by kernel_rfl) rfl #[.slice A0 l0.length c0] (by rfl) rfl rfl (by (try simp only [List.map_toArray,List.map_cons,List.map_nil]);rfl) ?_
       with_reducible refine (slices_Clone_impl_Reading.calls _ _ l0 t334 _ ?side1 ?side2 A14.out).mono ?_
       (case side1 => repeat (exact (Kd.C_below HR0.out HB.out)))
       (case side2 => exact HC0.out)
       rintro e w31 ⟨v335,rfl,ho0,hb⟩
       refine ⟨_,rfl, ?_⟩
       have n0_:=Aside0.mk (Kd.R_elder' (by exact HO339.out) (Kd.R_base ho0) hb)
       have n1_:=Aside0.mk (Kd.R_lower (Kd.R_newB (Kd.R_new' ho0 (Kd.R_lt (by exact HO339.out))) (g:=gb331) (o := .cells #[.int .i64 a1_0, .int .i64 a1_1, .bool a1_2] 41 (0,0)) (by exact BK331.out)) (below_size (by exact HB.out)))
       have n2_:=Aside0.mk (blk_below (g:=gb331) (o := .cells #[.int .i64 a1_0, .int .i64 a1_1, .bool a1_2] 41 (0,0)) (by exact BK331.out) hb)
       have n3_:=Aside0.mk (below_step (by exact HB.out) hb)
       clear HO339
       clear BK331
       clear HB
       have HO339:=n0_
       have HO336:=n1_
       have BK331:=n2_
       have HB:=n3_
       clear n0_ n1_ n2_ n3_
       (try clear hb)
       (skip)
       (skip)
       (skip)
       (try clear ho0)
       refine hK.out _ _ ⟨(blk_cell BK331.out 0).trans rfl,(blk_cell BK331.out 1).trans rfl,(blk_cell BK331.out 2).trans rfl⟩ (fun hHeld => ?_)
       clear hK K
       refine norm_ (a':=?_) ?_ ?_
       rotate_left
       ·show Act.put _ (some 28) _ = _
        simp only [Act.put,sA_,s0_,s1_,i64_w,i32_w]
        rfl
       exact norm_ (by simp only [putAll,Act.put,sA_,s0_,s1_]) (hCont (v335,v338) _ ⟨hHeld,(by exact Kd.R_mono HO336.out (fun _ hk => ⟨hk.1.2,hk.2⟩)),(by exact Kd.R_mono HO339.out (fun _ hk => ⟨hk.2,hk.1.2⟩)),(by exact BK331.out),(by exact HB.out)⟩)
     rintro ⟨v335,v338⟩ w32 ⟨hS_,h0_,h1_,h2_,h3_⟩
     have n0_ : Aside0 (Kd.R k41 41 w32 w.heap.size (fun k_ => some k_ ≠ (v338 : Value).ownBlock ∧ k_ ≠ gb331) v335 t334):=⟨h0_⟩
     have n1_ : Aside0 (Kd.R k41 41 w32 w.heap.size (fun k_ => some k_ ≠ (v335 : Value).ownBlock ∧ k_ ≠ gb331) v338 y337):=⟨h1_⟩
     have n2_ : Aside0 (w32.heap[gb331]? = some (.cells #[.int .i64 a1_0, .int .i64 a1_1, .bool a1_2] 41 (0,0))):=⟨h2_⟩
     have n3_ : Aside0 (Below w.heap.size w w32):=⟨h3_⟩
     clear BK331
     clear HB
     clear h0_ h1_ h2_ h3_
     have HO336:=n0_
     have HO339:=n1_
     have BK331:=n2_
     have HB:=n3_
     clear n0_ n1_ n2_ n3_
     have hHeld : w32.cell? ⟨gb331,0,none⟩ = some (.int .i64 a1_0) ∧ w32.cell? ⟨gb331,1,none⟩ = some (.int .i64 a1_1) ∧ w32.cell? ⟨gb331,2,none⟩ = some (.bool a1_2):=hS_
     obtain ⟨Ao33,co33,eo33⟩ := Kd.R_slice HO336.out
     (subst eo33)
     obtain ⟨Ao34,co34,eo34⟩ := Kd.R_slice HO339.out
     (subst eo34)
     refine norm_ (a':=?_) ?_ ?_
     rotate_left
     ·simp only [putAll,Act.put,sA_,s0_,s1_]
      rfl
     refine one_ (i:=5) (N:=some 32) #[true,true,true,true,true,true,false] rfl rfl (by kernel_rfl) (by decide) (fun K hK => ?_)
     refine goes_ Tryd.func37 (by kernel_rfl) rfl #[.slice Ao33 t334.length co33, .int .i64 x6_4, .slice Ao34 y337.length co34] (by rfl) rfl rfl (by (try simp only [List.map_toArray,List.map_cons,List.map_nil]);rfl) ?_
     with_reducible refine (slices_Insert_impl_Reading.calls (fun k_ => some k_ = (.slice Ao33 t334.length co33 : Value).ownBlock) (.slice Ao33 t334.length co33) t334 x6_4 (fun k_ => some k_ = (.slice Ao34 y337.length co34 : Value).ownBlock) (.slice Ao34 y337.length co34) y337 t340 w _ ?side1 ?side2 ?side3 ?side4 ?side5 A15.out).mono ?_
     (case side1 => exact HB.out)
     (case side2 => exact Kd.R_tight rfl HO336.out)
     (case side3 => exact fun k_ e_ => (HO336.out.1 k_ e_.symm).1)
     (case side4 => exact Kd.R_tight rfl HO339.out)
     (case side5 => exact fun k_ e_ => (HO339.out.1 k_ e_.symm).1)
     rintro e w35 ⟨v341,rfl,ho0,hb,hkp⟩
     refine ⟨_,rfl, ?_⟩
     have n0_:=Aside0.mk (blk_kept (by exact BK331.out) hkp (fun hs_ => Or.elim hs_ (fun e_ => (fun e_ => (Kd.R_away HO336.out (fun _ hk => hk.2)) e_) e_) (fun e_ => (fun e_ => (Kd.R_away HO339.out (fun _ hk => hk.2)) e_) e_)))
     have n1_:=Aside0.mk (Kd.R_mono (ok':=fun k_ => k_ ≠ gb331) ho0 (fun k_ hk_ => Or.elim hk_ (fun hs_ => Or.elim hs_ (fun hs_ => fun e_ => (Kd.R_away HO336.out (fun _ hk => hk.2)) (by rw [← e_];exact hs_)) (fun hs_ => fun e_ => (Kd.R_away HO339.out (fun _ hk => hk.2)) (by rw [← e_];exact hs_))) (fun hn_ => (Kd.freshB (g:=gb331) (o := .cells #[.int .i64 a1_0, .int .i64 a1_1, .bool a1_2] 41 (0,0)) (by exact BK331.out) k_ hn_))))
     have n2_:=Aside0.mk (hb)
     clear BK331
     clear HB
     clear HO336
     clear HO339
     have BK331:=n0_
     have HO342:=n1_
     have HB:=n2_
     clear n0_ n1_ n2_
     (try clear hb)
     (try clear hkp)
     (try clear ho0)
     refine hK.out _ _ ⟨(blk_cell BK331.out 0).trans rfl,(blk_cell BK331.out 1).trans rfl,(blk_cell BK331.out 2).trans rfl⟩ (fun hHeld => ?_)
     clear hK K
     refine norm_ (a':=?_) ?_ ?_
     rotate_left
     ·show Act.put _ (some 32) _ = _
      simp only [Act.put,sA_,s0_,s1_,i64_w,i32_w]
      rfl
     refine pure_ (i:=6) (N:=some 7) (v:=?_) (a':=?_) #[true,true,true,true,true,true,true] rfl rfl (by kernel_rfl) (fun _ _ _ h => h) (Or.inl ⟨by rfl, ?_⟩) ?_ ?_
     rotate_left
     ·intro w'
      go_simp
      with_reducible rfl
     rotate_left
     ·simp only [Act.put,sA_,s0_,s1_,i64_w,i32_w]
      rfl
     refine done_ (by kernel_rfl) ?_
     obtain ⟨Ao36,co36,eo36⟩ := Kd.R_slice HO342.out
     subst eo36
     try go_wp2_with (((with_reducible refine gate_callee (f:=22) rfl ?_);refine goesL_ (some 34) rfl rfl Tryd.func22 (by kernel_rfl) rfl #[.slice Ao36 t340.length co36] rfl (by (try simp only [List.map_toArray,List.map_cons,List.map_nil]);rfl) ?_;(with_reducible refine (impl_IsValidReadings.calls kj4 _ _ t340 false _ ?side1 ?side2 A16.out).mono ?_);(case side1 => repeat (exact (Kd.R_reads' HO342.out).2.2));(case side2 => exact (Kd.R_reads' HO342.out).2.1);rintro e w37 ⟨rfl,hb⟩;refine ⟨_,rfl, ?_⟩;have n0_:=Aside0.mk (Kd.R_below (by exact HO342.out) hb);have n1_:=Aside0.mk (blk_below (g:=gb331) (o := .cells #[.int .i64 a1_0, .int .i64 a1_1, .bool a1_2] 41 (0,0)) (by exact BK331.out) hb);have n2_:=Aside0.mk (below_step (by exact HB.out) hb);clear HO342;clear BK331;clear HB;have HO342:=n0_;have BK331:=n1_;have HB:=n2_;clear n0_ n1_ n2_;(try clear hb)))
     go_ret2
     exact ⟨_,by rfl,by exact Kd.R_nil _ _ _ _ _,by exact HB.out⟩
 ·replace c4:=Bool.eq_false_iff.mpr c4
  subst c4
  have H1 : (some (([] : List (S41)),false)) = some (r1,r2):=by rw [if_neg (show ¬ (false = true) by decide)] at H;exact H
  clear H
  have H:=H1
  clear H1
  simp only [Option.some.injEq,Prod.mk.injEq] at H
  obtain ⟨rfl,rfl⟩ := H
  go_enter Tryd.func19,Tryd.ntmps19
  go_wp2_with (first | ((with_reducible refine gate_dst (N:=3) rfl ?_);refine box_event ?hg (N:=3) ?hd (cs:=#[.int .i64 a1_0, .int .i64 a1_1, .bool a1_2]) (t:=41) ?hr ?_;(case hd => rfl);(case hg => rfl);(case hr => (go_simp;done));intro gb331 hg w38 hbox hb;have n0_:=Aside0.mk (below_step (by exact HB.out) hb);have n1_:=Aside0.mk (hbox);have n2_:=Aside0.mk ((by rw [hg];exact (below_size (by exact HB.out)) : w.heap.size ≤ gb331));have n3_:=Aside0.mk ((by rw [hg];exact (below_size (by exact HB.out)) : w.heap.size ≤ gb331));clear HB;have HB:=n0_;have BK331:=n1_;have GW331:=n2_;have GE331:=n3_;clear n0_ n1_ n2_ n3_;clear hb hbox hg) | ((with_reducible refine gate_callee (f:=22) rfl ?_);refine goesL_ (some 9) rfl rfl Tryd.func22 (by kernel_rfl) rfl #[.slice A0 l0.length c0] rfl (by (try simp only [List.map_toArray,List.map_cons,List.map_nil]);rfl) ?_;(with_reducible refine (impl_IsValidReadings.calls k _ _ l0 false _ ?side1 ?side2 A3.out).mono ?_);(case side1 => repeat (exact (Kd.C_below HR0.out HB.out)));(case side2 => exact HC0.out);rintro e w39 ⟨rfl,hb⟩;refine ⟨_,rfl, ?_⟩;have n0_:=Aside0.mk (blk_below (g:=gb331) (o := .cells #[.int .i64 a1_0, .int .i64 a1_1, .bool a1_2] 41 (0,0)) (by exact BK331.out) hb);have n1_:=Aside0.mk (below_step (by exact HB.out) hb);clear BK331;clear HB;have BK331:=n0_;have HB:=n1_;clear n0_ n1_;(try clear hb)))
  go_ret2
  exact ⟨_,by rfl,by exact Kd.R_nil _ _ _ _ _,by exact HB.out⟩

end Go.Proofs.YtpelcaijjdgnoaaDoor.PFnReadings
