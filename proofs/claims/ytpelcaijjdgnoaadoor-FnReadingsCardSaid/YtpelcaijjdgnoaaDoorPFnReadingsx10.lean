-- Written by a program of this session, over the kit's print (wip/xprint.py)
import Derived.Test.YtpelcaijjdgnoaaDoorPFnReadingsx0
import Derived.Test.YtpelcaijjdgnoaaDoorPFnReadingsx6
namespace Go.Proofs.YtpelcaijjdgnoaaDoor.PFnReadings
open Go.RowKit Go.Proofs.YtpelcaijjdgnoaaDoorW.PrintWords Go.Proofs.YtpelcaijjdgnoaaDoorW.PrintLast Go.Proofs.YtpelcaijjdgnoaaDoorW.PrintMore
attribute [local go_sem] max2_int min2_int max_two min_two max_three min_three max_four min_four   -- for this text's walks alone
set_option linter.unusedVariables false
set_option linter.unusedSimpArgs false

/-! ### spec_AddReading: function 20 -/
def spec_AddReading.l0 : Nat → List (S41) → Int → Int → Int → Bool → Option ((List (S41)) × Bool)
 | 0,_,_,_,_,_ => none
 | k + 1,x0,x6,x345000,x345001,x345002 => if x6 < (x0.length : Int) then (if 0 ≤ x6 then (if ((rd_T41 x0 x6).f0) < x345000 then (spec_AddReading.l0 k x0 (wrap64 (x6 + 1)) x345000 x345001 x345002) else ((some (([] : List (S41)) : List (S41))).bind fun y350 => (if x6 ≤ (x0.length : Int) then ((some (x0.take (x6 : Int).toNat : List (S41))).bind fun y353 => (if y350.length + y353.length < 5864062014805 then ((some (y350 ++ y353 : List (S41))).bind fun y357 => ((some (([(⟨x345000,x345001,x345002⟩ : S41)] : List (S41)) : List (S41))).bind fun y360 => (if y357.length + y360.length < 5864062014805 then ((some (y357 ++ y360 : List (S41))).bind fun y363 => ((some (x0.drop (x6 : Int).toNat : List (S41))).bind fun y366 => (if y363.length + y366.length < 5864062014805 then ((some (y363 ++ y366 : List (S41))).bind fun y370 => ((spec_l21Good.f k y370).bind fun t373 => (if t373 = true then (some (y370,true)) else (some ((([] : List (S41))),false))))) else (none)))) else (none)))) else (none))) else (none)))) else (none)) else ((some (([] : List (S41)) : List (S41))).bind fun y377 => (if 0 ≤ x6 then (if x6 ≤ (x0.length : Int) then ((some (x0.take (x6 : Int).toNat : List (S41))).bind fun y380 => (if y377.length + y380.length < 5864062014805 then ((some (y377 ++ y380 : List (S41))).bind fun y384 => ((some (([(⟨x345000,x345001,x345002⟩ : S41)] : List (S41)) : List (S41))).bind fun y387 => (if y384.length + y387.length < 5864062014805 then ((some (y384 ++ y387 : List (S41))).bind fun y390 => ((some (x0.drop (x6 : Int).toNat : List (S41))).bind fun y393 => (if y390.length + y393.length < 5864062014805 then ((some (y390 ++ y393 : List (S41))).bind fun y397 => ((spec_l21Good.f k y397).bind fun t400 => (if t400 = true then (some (y397,true)) else (some ((([] : List (S41))),false))))) else (none)))) else (none)))) else (none))) else (none)) else (none)))
def spec_AddReading.f (k : Nat) (l0 : List (S41)) (a1_0 : Int) (a1_1 : Int) (a1_2 : Bool) : Option ((List (S41)) × Bool):=(spec_l21Good.f k l0).bind fun t345 => (if t345 = true then (spec_AddReading.l0 k l0 0 a1_0 a1_1 a1_2) else (some ((([] : List (S41))),false)))
theorem spec_AddReading.mono_l : ∀ k,(∀ y0 y1 y2 y3 y4,LeO (spec_AddReading.l0 k y0 y1 y2 y3 y4) (spec_AddReading.l0 (k + 1) y0 y1 y2 y3 y4))
 | 0 => fun _ _ _ _ _ r h => by simp [spec_AddReading.l0] at h
 | k + 1 => by
  have ih0:=spec_AddReading.mono_l k
  ·intro y0 y1 y2 y3 y4
   unfold spec_AddReading.l0
   repeat' first
   | (with_reducible exact ih0 _ _ _ _ _)
   | (with_reducible exact spec_l21Good.mono _ _)
   | (with_reducible exact LeO.refl _)
   | (with_reducible exact LeO.none _)
   | (with_reducible refine LeO.ite ?_ ?_)
   | (with_reducible refine LeO.bind ?_ (fun _ => ?_))
   | exact ih0 _ _ _ _ _
   | exact spec_l21Good.mono _ _
   | exact LeO.none _
   | refine LeO.ite ?_ ?_
   | refine LeO.bind ?_ (fun _ => ?_)
theorem spec_AddReading.mono : ∀ a0 a1 a2 a3 k,LeO (spec_AddReading.f k a0 a1 a2 a3) (spec_AddReading.f (k + 1) a0 a1 a2 a3):=by
 intro a0 a1 a2 a3 k
 have ih0:=spec_AddReading.mono_l k
 unfold spec_AddReading.f
 repeat' first
   | (with_reducible exact ih0 _ _ _ _ _)
   | (with_reducible exact spec_l21Good.mono _ _)
   | (with_reducible exact LeO.refl _)
   | (with_reducible exact LeO.none _)
   | (with_reducible refine LeO.ite ?_ ?_)
   | (with_reducible refine LeO.bind ?_ (fun _ => ?_))
   | exact ih0 _ _ _ _ _
   | exact spec_l21Good.mono _ _
   | exact LeO.none _
   | refine LeO.ite ?_ ?_
   | refine LeO.bind ?_ (fun _ => ?_)
def spec_AddReading.T4 : Bool × List (List Nat × List Nat):=(true,[([],[]),([],[]),([1],[1]),([0,2],[0,2]),([3],[3]),([4],[4]),([4],[4]),([5,6,4],[4,5,6]),([7,4],[4,7]),([8,4],[4,8]),([4],[4]),([10,4],[4,10]),([9,11,4],[4,9,11]),([4,12],[4,12])])
def spec_AddReading.B4 : List Nat := [0,0,2,7,15,31,31,127,255,511,31,1055,4095,8191]
theorem spec_AddReading.tab4 : rtab .any (opsOf Tryd.f20 4) = spec_AddReading.T4:=by kernel_rfl
theorem spec_AddReading.bits4 : waitsOk spec_AddReading.T4.2 spec_AddReading.B4 = true:=by kernel_rfl
def spec_AddReading.T6 : Bool × List (List Nat × List Nat):=(true,[([],[]),([],[]),([],[]),([1,2],[1,2]),([0,3],[0,3]),([],[]),([5],[5]),([4,6,4],[4,6]),([],[]),([],[]),([8,9],[8,9]),([7,10,7],[7,10]),([11,11,0,1,2,3,4,5,6,7,8,9,10,11],[11])])
def spec_AddReading.B6 : List Nat := [0,0,0,6,15,0,32,127,0,0,768,2047,4095]
theorem spec_AddReading.tab6 : rtab .any (opsOf Tryd.f20 6) = spec_AddReading.T6:=by kernel_rfl
theorem spec_AddReading.bits6 : waitsOk spec_AddReading.T6.2 spec_AddReading.B6 = true:=by kernel_rfl
set_option maxHeartbeats 8000000 in
set_option maxRecDepth 100000 in
theorem spec_AddReading.calls (k : Nat) (A0 : Option Addr) (c0 : Nat) (l0 : List (S41)) (a1_0 : Int) (a1_1 : Int) (a1_2 : Bool) (r1 : List (S41)) (r2 : Bool) (w : World) (hr0 : Kd.C k41 w A0 l0.length l0) (hc0 : l0.length ≤ c0) (h : spec_AddReading.f k l0 a1_0 a1_1 a1_2 = some (r1,r2)) :
  Calls Tryd.prog 20 #[.slice A0 l0.length c0, .agg #[.int .i64 a1_0, .int .i64 a1_1, .bool a1_2]] w fun e w' => ∃ v0_ : Value,e = .returned (.tuple #[v0_, .bool r2]) ∧ Kd.R k41 41 w' w.heap.size (fun _ => True) v0_ r1 ∧ Below w.heap.size w w':=by
 have hu41:=Tryd.underlying41
 have HR0:=Aside0.mk hr0
 have HC0:=Aside0.mk hc0
 clear hr0 hc0
 have HB:=Aside0.mk (Below.refl w.heap.size w)
 have H : ((spec_l21Good.f k l0).bind fun t345 => (if t345 = true then (spec_AddReading.l0 k l0 0 a1_0 a1_1 a1_2) else (some ((([] : List (S41))),false)))) = some (r1,r2):=h
 clear h
 replace H:=Option.bind_eq_some_iff.mp H
 obtain ⟨t345,A30,H⟩ := H
 replace H : (if t345 = true then (spec_AddReading.l0 k l0 0 a1_0 a1_1 a1_2) else (some ((([] : List (S41))),false))) = some (r1,r2):=H
 have A3:=Aside0.mk A30
 clear A30
 by_cases c4 : t345 = true
 ·subst c4
  have H1 : (spec_AddReading.l0 k l0 0 a1_0 a1_1 a1_2) = some (r1,r2):=by rw [if_pos rfl] at H;exact H
  clear H
  have H:=H1
  clear H1
  have H':=Aside0.mk H
  clear H
  go_enter Tryd.func20,Tryd.ntmps20
  go_wp2_with (first | ((with_reducible refine gate_dst (N:=3) rfl ?_);refine box_event ?hg (N:=3) ?hd (cs:=#[.int .i64 a1_0, .int .i64 a1_1, .bool a1_2]) (t:=41) ?hr ?_;(case hd => rfl);(case hg => rfl);(case hr => (go_simp;done));intro gb344 hg w5 hbox hb;have n0_:=Aside0.mk (below_step (by exact HB.out) hb);have n1_:=Aside0.mk (hbox);have n2_:=Aside0.mk ((by rw [hg];exact (below_size (by exact HB.out)) : w.heap.size ≤ gb344));have n3_:=Aside0.mk ((by rw [hg];exact (below_size (by exact HB.out)) : w.heap.size ≤ gb344));clear HB;have HB:=n0_;have BK344:=n1_;have GW344:=n2_;have GE344:=n3_;clear n0_ n1_ n2_ n3_;clear hb hbox hg) | ((with_reducible refine gate_callee (f:=39) rfl ?_);refine goesL_ (some 9) rfl rfl Tryd.func39 (by kernel_rfl) rfl #[.slice A0 l0.length c0] rfl (by (try simp only [List.map_toArray,List.map_cons,List.map_nil]);rfl) ?_;(with_reducible refine (spec_l21Good.calls k _ _ l0 true _ ?side1 ?side2 A3.out).mono ?_);(case side1 => repeat (exact (Kd.C_below HR0.out HB.out)));(case side2 => exact HC0.out);rintro e w6 ⟨rfl,hb⟩;refine ⟨_,rfl, ?_⟩;have n0_:=Aside0.mk (blk_below (g:=gb344) (o := .cells #[.int .i64 a1_0, .int .i64 a1_1, .bool a1_2] 41 (0,0)) (by exact BK344.out) hb);have n1_:=Aside0.mk (below_step (by exact HB.out) hb);clear BK344;clear HB;have BK344:=n0_;have HB:=n1_;clear n0_ n1_;(try clear hb)))
  (skip)
  go_loopg [6] k (fun kq v6 w' => ∃ (x6_1 : Int),v6 = .int .i64 x6_1 ∧ Aside0 (spec_AddReading.l0 kq l0 x6_1 a1_0 a1_1 a1_2 = some (r1,r2)) ∧ Aside0 (kq ≤ k) ∧ Aside0 (w'.heap[gb344]? = some (.cells #[.int .i64 a1_0, .int .i64 a1_1, .bool a1_2] 41 (0,0))) ∧ Aside0 (Below w.heap.size w w'))
  case atStart => exact ⟨(0),(by rfl),H',⟨Nat.le_refl _⟩,⟨by exact BK344.out⟩,⟨by exact HB.out⟩⟩
  case round =>
   clear H'
   try clear c2
   try clear p2
   try clear c3
   try clear c4
   obtain ⟨x6_1,rfl,HA,HK1,BK344,HB⟩ := hrel
   cases gk with
   | zero => exact absurd HA.out (by simp [spec_AddReading.l0])
   | succ k1 =>
    have H:=HA.out
    clear HA
    simp only [spec_AddReading.l0] at H
    by_cases c7 : x6_1 < (l0.length : Int)
    ·rw [if_pos c7] at H
     have c7b0 : decide (x6_1 < (l0.length : Int)) = true:=decide_eq_true c7
     clear c7
     by_cases c8 : 0 ≤ x6_1
     ·rw [if_pos c8] at H
      have c8b0 : decide (0 ≤ x6_1) = true:=decide_eq_true c8
      clear c8
      by_cases c9 : ((rd_T41 l0 x6_1).f0) < a1_0
      ·rw [if_pos c9] at H
       have c9b0 : decide (((rd_T41 l0 x6_1).f0) < a1_0) = true:=decide_eq_true c9
       clear c9
       have H':=Aside0.mk H
       clear H
       try go_wp2
       have n0_:=Aside0.mk (blk_drew BK344.out)
       have n1_:=Aside0.mk (below_drew1 HB.out)
       clear BK344
       clear HB
       have BK344:=n0_
       have HB:=n1_
       clear n0_ n1_
       have p349 : 0 ≤ (x6_1 : Int):=of_decide_eq_true (by (with_reducible assumption))
       have q349 : x6_1 < (l0.length : Int):=of_decide_eq_true (by (with_reducible assumption))
       obtain ⟨ad349,e349,hx349_0,hx349_1,hx349_2⟩ := at_T41 HR0.out x6_1 p349 q349
       have hw349_2:=hx349_2
       have hw349_1:=hx349_1
       have hw349_0:=hx349_0
       cases e349
       replace hx349_0:=(HB.out.cell (World.block_lt_of_cell? w _ hx349_0)).trans hx349_0
       replace hx349_1:=(HB.out.cell (World.block_lt_of_cell? w _ hx349_1)).trans hx349_1
       replace hx349_2:=(HB.out.cell (World.block_lt_of_cell? w _ hx349_2)).trans hx349_2
       replace p349:=eq_true p349
       replace q349:=eq_true q349
       refine start_ (n:=14) (S:=fun w' => w'.cell? ⟨gb344,0,none⟩ = some (.int .i64 a1_0) ∧ w'.cell? ⟨gb344,1,none⟩ = some (.int .i64 a1_1) ∧ w'.cell? ⟨gb344,2,none⟩ = some (.bool a1_2) ∧ w'.cell? (ad349.add ((x6_1).toNat * 3)) = some (.int .i64 ((rd_T41 l0 x6_1).f0)) ∧ w'.cell? ⟨(ad349.add ((x6_1).toNat * 3)).block,(ad349.add ((x6_1).toNat * 3)).off + 1,none⟩ = some (.int .i64 ((rd_T41 l0 x6_1).f1)) ∧ w'.cell? ⟨(ad349.add ((x6_1).toNat * 3)).block,(ad349.add ((x6_1).toNat * 3)).off + 2,none⟩ = some (.bool ((rd_T41 l0 x6_1).f2))) (ds := []) #[false,false,false,false,false,false,false,false,false,false,false,false,false,false] (by kernel_rfl) rfl rfl ⟨(blk_cell BK344.out 0).trans rfl,(blk_cell BK344.out 1).trans rfl,(blk_cell BK344.out 2).trans rfl,((HB.out.cell (World.block_lt_of_cell? w _ hw349_0)).trans hw349_0),((HB.out.cell (World.block_lt_of_cell? w _ hw349_1)).trans hw349_1),((HB.out.cell (World.block_lt_of_cell? w _ hw349_2)).trans hw349_2)⟩ (fun hHeld => ?_);refine with_tabW spec_AddReading.tab4 spec_AddReading.bits4 (fun HT_ HW_ => ?_)
       generalize wr.drew = w10 at BK344 HB hx349_0 hx349_1 hx349_2 hHeld ⊢
       refine pure_ (i:=0) (N:=some 12) (v:=?_) (a':=?_) #[true,false,false,false,false,false,false,false,false,false,false,false,false,false] rfl rfl (any_of HT_.out (by kernel_rfl)) (fun _ _ _ h => h) (Or.inl ⟨by rfl, ?_⟩) ?_ ?_
       rotate_left
       ·intro w'
        go_simp
        with_reducible rfl
       rotate_left
       ·simp only [Act.put,sA_,s0_,s1_,i64_w,i32_w]
        rfl
       refine pure_ (i:=1) (N:=some 13) (v:=?_) (a':=?_) #[true,true,false,false,false,false,false,false,false,false,false,false,false,false] rfl rfl (any_of HT_.out (by kernel_rfl)) (fun _ _ _ h => h) (Or.inl ⟨by rfl, ?_⟩) ?_ ?_
       rotate_left
       ·intro w'
        go_simp
        with_reducible rfl
       rotate_left
       ·simp only [Act.put,sA_,s0_,s1_,i64_w,i32_w]
        rfl
       refine pure_ (i:=2) (N:=some 14) (v:=?_) (a':=?_) #[true,true,true,false,false,false,false,false,false,false,false,false,false,false] rfl rfl (any_of HT_.out (by kernel_rfl)) (fun _ _ _ h => h) (Or.inl ⟨by rfl, ?_⟩) ?_ ?_
       rotate_left
       ·intro w'
        go_simp
        with_reducible rfl
       rotate_left
       ·simp only [Act.put,sA_,s0_,s1_,i64_w,i32_w]
        rfl
       refine pure_ (i:=3) (N:=some 15) (v:=?_) (a':=?_) #[true,true,true,true,false,false,false,false,false,false,false,false,false,false] rfl rfl (any_of HT_.out (by kernel_rfl)) (fun _ _ _ h => h) (Or.inl ⟨by rfl, ?_⟩) ?_ ?_
       rotate_left
       ·intro w'
        go_simp
        with_reducible rfl
       rotate_left
       ·simp only [Act.put,sA_,s0_,s1_,i64_w,i32_w]
        rfl
       refine pure_ (i:=4) (N:=some 16) (v:=?_) (a':=?_) #[true,true,true,true,true,false,false,false,false,false,false,false,false,false] rfl rfl (any_of HT_.out (by kernel_rfl)) (fun _ _ _ h => h) (Or.inl ⟨by rfl, ?_⟩) ?_ ?_
       rotate_left
       ·intro w'
        go_simp
        with_reducible rfl
       rotate_left
       ·simp only [Act.put,sA_,s0_,s1_,i64_w,i32_w]
        rfl
       refine pure_ (i:=5) (N:=some 17) (v:=?_) (a':=?_) #[true,true,true,true,true,true,false,false,false,false,false,false,false,false] rfl rfl (any_of HT_.out (by kernel_rfl)) (fun _ _ _ h => h) (Or.inl ⟨by rfl, ?_⟩) ?_ ?_
       rotate_left
       ·intro w'
        go_simp
        with_reducible rfl
       rotate_left
       ·simp only [Act.put,sA_,s0_,s1_,i64_w,i32_w]
        rfl
       refine pure_ (i:=6) (N:=some 18) (v:=?_) (a':=?_) #[true,true,true,true,true,true,true,false,false,false,false,false,false,false] rfl rfl (any_of HT_.out (by kernel_rfl)) (fun _ _ _ h => h) (Or.inl ⟨by rfl, ?_⟩) ?_ ?_
       rotate_left
       ·intro w'
        go_simp
        with_reducible rfl
       rotate_left
       ·simp only [Act.put,sA_,s0_,s1_,i64_w,i32_w]
        rfl
       refine pure_ (i:=7) (N:=some 19) (v:=?_) (a':=?_) #[true,true,true,true,true,true,true,true,false,false,false,false,false,false] rfl rfl (any_of HT_.out (by kernel_rfl)) (fun _ _ _ h => h) (Or.inl ⟨by rfl, ?_⟩) ?_ ?_
       rotate_left
       ·intro w'
        go_simp
        with_reducible rfl
       rotate_left
       ·simp only [Act.put,sA_,s0_,s1_,i64_w,i32_w]
        rfl
       refine pure_ (i:=8) (N:=some 20) (v:=?_) (a':=?_) #[true,true,true,true,true,true,true,true,true,false,false,false,false,false] rfl rfl (any_of HT_.out (by kernel_rfl)) (fun _ _ _ h => h) (Or.inl ⟨by rfl, ?_⟩) ?_ ?_
       rotate_left
       ·intro w'
        go_simp
        with_reducible rfl
       rotate_left
       ·simp only [Act.put,sA_,s0_,s1_,i64_w,i32_w]
        rfl
       refine pure_ (i:=10) (N:=some 22) (v:=?_) (a':=?_) #[true,true,true,true,true,true,true,true,true,false,true,false,false,false] rfl rfl (any_of HT_.out (by kernel_rfl)) (fun _ _ _ h => h) (Or.inl ⟨by rfl, ?_⟩) ?_ ?_
       rotate_left
       ·intro w'
        go_simp
        with_reducible rfl
       rotate_left
       ·simp only [Act.put,sA_,s0_,s1_,i64_w,i32_w]
        rfl
       refine take_ (i:=9) (N:=some 21) (v:=?_) (a':=?_) #[true,true,true,true,true,true,true,true,true,true,true,false,false,false] rfl rfl (take_ofW HT_.out HW_.out (by kernel_rfl)) (fun _ _ _ h => h) (Or.inl ⟨by rfl, ?_⟩) hHeld ?_ ?_
       rotate_left
       ·rintro w' ⟨s0,s1,s2,s3,s4,s5⟩
        go_simp
        with_reducible rfl
       rotate_left
       ·simp only [Act.put,sA_,s0_,s1_,i64_w,i32_w]
        rfl
       refine take_ (i:=11) (N:=some 23) (v:=?_) (a':=?_) #[true,true,true,true,true,true,true,true,true,true,true,true,false,false] rfl rfl (take_ofW HT_.out HW_.out (by kernel_rfl)) (fun _ _ _ h => h) (Or.inl ⟨by rfl, ?_⟩) hHeld ?_ ?_
       rotate_left
       ·rintro w' ⟨s0,s1,s2,s3,s4,s5⟩
        go_simp
        with_reducible rfl
       rotate_left
       ·simp only [Act.put,sA_,s0_,s1_,i64_w,i32_w]
        rfl
       refine pure_ (i:=12) (N:=some 24) (v:=?_) (a':=?_) #[true,true,true,true,true,true,true,true,true,true,true,true,true,false] rfl rfl (any_of HT_.out (by kernel_rfl)) (fun _ _ _ h => h) (Or.inl ⟨by rfl, ?_⟩) ?_ ?_
       rotate_left
       ·intro w'
        go_simp
        with_reducible rfl
       rotate_left
       ·simp only [Act.put,sA_,s0_,s1_,i64_w,i32_w]
        rfl
       refine pure_ (i:=13) (N:=some 25) (v:=?_) (a':=?_) #[true,true,true,true,true,true,true,true,true,true,true,true,true,true] rfl rfl (any_of HT_.out (by kernel_rfl)) (fun _ _ _ h => h) (Or.inl ⟨by rfl, ?_⟩) ?_ ?_
       rotate_left
       ·intro w'
        go_simp
        with_reducible rfl
       rotate_left
       ·simp only [Act.put,sA_,s0_,s1_,i64_w,i32_w]
        rfl
       refine done_ (done_of HT_.out (by kernel_rfl)) ?_
       try go_wp2
       go_roundg k1
       case measure => have:=HK1.out;omega
       case rel => exact ⟨(wrap64 (x6_1 + 1)),(by rfl),H',⟨by have:=HK1.out;omega⟩,⟨by exact BK344.out⟩,⟨by exact HB.out⟩⟩
      ·rw [if_neg c9] at H
       have c9b0 : decide (((rd_T41 l0 x6_1).f0) < a1_0) = false:=decide_eq_false c9
       clear c9
       obtain ⟨y350,hy350⟩ : ∃ y_ : List (S41),y_ = (([] : List (S41))):=⟨_,rfl⟩
       replace H : (if x6_1 ≤ (l0.length : Int) then ((some (l0.take (x6_1 : Int).toNat : List (S41))).bind fun y353 => (if y350.length + y353.length < 5864062014805 then ((some (y350 ++ y353 : List (S41))).bind fun y357 => ((some (([(⟨a1_0,a1_1,a1_2⟩ : S41)] : List (S41)) : List (S41))).bind fun y360 => (if y357.length + y360.length < 5864062014805 then ((some (y357 ++ y360 : List (S41))).bind fun y363 => ((some (l0.drop (x6_1 : Int).toNat : List (S41))).bind fun y366 => (if y363.length + y366.length < 5864062014805 then ((some (y363 ++ y366 : List (S41))).bind fun y370 => ((spec_l21Good.f k1 y370).bind fun t373 => (if t373 = true then (some (y370,true)) else (some ((([] : List (S41))),false))))) else (none)))) else (none)))) else (none))) else (none)) = some (r1,r2):=by (have H2_:=(Option.bind_some _ _).symm.trans H;rw [hy350];with_reducible exact H2_)
       have Ny350:=Aside0.mk hy350
       clear hy350
       have c11b0:=eq_true (of_decide_eq_true (by (with_reducible assumption)) : 0 ≤ x6_1)
       by_cases c12 : x6_1 ≤ (l0.length : Int)
       ·rw [if_pos c12] at H
        have c12b0:=eq_true c12
        have c12b1 : decide (x6_1 ≤ (l0.length : Int)) = true:=decide_eq_true c12
        clear c12
        obtain ⟨y353,hy353⟩ : ∃ y_ : List (S41),y_ = (l0.take (x6_1 : Int).toNat):=⟨_,rfl⟩
        replace H : (if y350.length + y353.length < 5864062014805 then ((some (y350 ++ y353 : List (S41))).bind fun y357 => ((some (([(⟨a1_0,a1_1,a1_2⟩ : S41)] : List (S41)) : List (S41))).bind fun y360 => (if y357.length + y360.length < 5864062014805 then ((some (y357 ++ y360 : List (S41))).bind fun y363 => ((some (l0.drop (x6_1 : Int).toNat : List (S41))).bind fun y366 => (if y363.length + y366.length < 5864062014805 then ((some (y363 ++ y366 : List (S41))).bind fun y370 => ((spec_l21Good.f k1 y370).bind fun t373 => (if t373 = true then (some (y370,true)) else (some ((([] : List (S41))),false))))) else (none)))) else (none)))) else (none)) = some (r1,r2):=by (have H2_:=(Option.bind_some _ _).symm.trans H;rw [hy353];with_reducible exact H2_)
        have Ny353:=Aside0.mk hy353
        clear hy353
        by_cases c13 : y350.length + y353.length < 5864062014805
        ·rw [if_pos c13] at H
         have LMc13:=Aside0.mk c13
         clear c13
         obtain ⟨y357,hy357⟩ : ∃ y_ : List (S41),y_ = (y350 ++ y353):=⟨_,rfl⟩
         replace H : ((some (([(⟨a1_0,a1_1,a1_2⟩ : S41)] : List (S41)) : List (S41))).bind fun y360 => (if y357.length + y360.length < 5864062014805 then ((some (y357 ++ y360 : List (S41))).bind fun y363 => ((some (l0.drop (x6_1 : Int).toNat : List (S41))).bind fun y366 => (if y363.length + y366.length < 5864062014805 then ((some (y363 ++ y366 : List (S41))).bind fun y370 => ((spec_l21Good.f k1 y370).bind fun t373 => (if t373 = true then (some (y370,true)) else (some ((([] : List (S41))),false))))) else (none)))) else (none))) = some (r1,r2):=by (have H2_:=(Option.bind_some _ _).symm.trans H;rw [hy357];with_reducible exact H2_)
         have Ny357:=Aside0.mk hy357
         clear hy357
         obtain ⟨y360,hy360⟩ : ∃ y_ : List (S41),y_ = (([(⟨a1_0,a1_1,a1_2⟩ : S41)] : List (S41))):=⟨_,rfl⟩
         replace H : (if y357.length + y360.length < 5864062014805 then ((some (y357 ++ y360 : List (S41))).bind fun y363 => ((some (l0.drop (x6_1 : Int).toNat : List (S41))).bind fun y366 => (if y363.length + y366.length < 5864062014805 then ((some (y363 ++ y366 : List (S41))).bind fun y370 => ((spec_l21Good.f k1 y370).bind fun t373 => (if t373 = true then (some (y370,true)) else (some ((([] : List (S41))),false))))) else (none)))) else (none)) = some (r1,r2):=by (have H2_:=(Option.bind_some _ _).symm.trans H;rw [hy360];with_reducible exact H2_)
         have Ny360:=Aside0.mk hy360
         clear hy360
         by_cases c14 : y357.length + y360.length < 5864062014805
         ·rw [if_pos c14] at H
          have LMc14:=Aside0.mk c14
          clear c14
          obtain ⟨y363,hy363⟩ : ∃ y_ : List (S41),y_ = (y357 ++ y360):=⟨_,rfl⟩
          replace H : ((some (l0.drop (x6_1 : Int).toNat : List (S41))).bind fun y366 => (if y363.length + y366.length < 5864062014805 then ((some (y363 ++ y366 : List (S41))).bind fun y370 => ((spec_l21Good.f k1 y370).bind fun t373 => (if t373 = true then (some (y370,true)) else (some ((([] : List (S41))),false))))) else (none))) = some (r1,r2):=by (have H2_:=(Option.bind_some _ _).symm.trans H;rw [hy363];with_reducible exact H2_)
          have Ny363:=Aside0.mk hy363
          clear hy363
          have c15b0:=eq_true (of_decide_eq_true (by (with_reducible assumption)) : 0 ≤ x6_1)
          have c16b0:=eq_true (of_decide_eq_true (by (with_reducible assumption)) : x6_1 ≤ (l0.length : Int))
          obtain ⟨y366,hy366⟩ : ∃ y_ : List (S41),y_ = (l0.drop (x6_1 : Int).toNat):=⟨_,rfl⟩
          replace H : (if y363.length + y366.length < 5864062014805 then ((some (y363 ++ y366 : List (S41))).bind fun y370 => ((spec_l21Good.f k1 y370).bind fun t373 => (if t373 = true then (some (y370,true)) else (some ((([] : List (S41))),false))))) else (none)) = some (r1,r2):=by (have H2_:=(Option.bind_some _ _).symm.trans H;rw [hy366];with_reducible exact H2_)
          have Ny366:=Aside0.mk hy366
          clear hy366
          by_cases c17 : y363.length + y366.length < 5864062014805
          ·rw [if_pos c17] at H
           have LMc17:=Aside0.mk c17
           clear c17
           obtain ⟨y370,hy370⟩ : ∃ y_ : List (S41),y_ = (y363 ++ y366):=⟨_,rfl⟩
           replace H : ((spec_l21Good.f k1 y370).bind fun t373 => (if t373 = true then (some (y370,true)) else (some ((([] : List (S41))),false)))) = some (r1,r2):=by (have H2_:=(Option.bind_some _ _).symm.trans H;rw [hy370];with_reducible exact H2_)
           have Ny370:=Aside0.mk hy370
           clear hy370
           replace H:=Option.bind_eq_some_iff.mp H
           obtain ⟨t373,A180,H⟩ := H
           replace H : (if t373 = true then (some (y370,true)) else (some ((([] : List (S41))),false))) = some (r1,r2):=H
           have A18:=Aside0.mk A180
           clear A180
           by_cases c19 : t373 = true
           ·subst c19
            have H1 : (some (y370,true)) = some (r1,r2):=by rw [if_pos rfl] at H;exact H
            clear H
            have H:=H1
            clear H1
            simp only [Option.some.injEq,Prod.mk.injEq] at H
            obtain ⟨rfl,rfl⟩ := H
            try go_wp2
            have n0_:=Aside0.mk (blk_drew BK344.out)
            have n1_:=Aside0.mk (below_drew1 HB.out)
            clear BK344
            clear HB
            have BK344:=n0_
            have HB:=n1_
            clear n0_ n1_
            have p349 : 0 ≤ (x6_1 : Int):=of_decide_eq_true (by (with_reducible assumption))
            have q349 : x6_1 < (l0.length : Int):=of_decide_eq_true (by (with_reducible assumption))
            obtain ⟨ad349,e349,hx349_0,hx349_1,hx349_2⟩ := at_T41 HR0.out x6_1 p349 q349
            have hw349_2:=hx349_2
            have hw349_1:=hx349_1
            have hw349_0:=hx349_0
            cases e349
            replace hx349_0:=(HB.out.cell (World.block_lt_of_cell? w _ hx349_0)).trans hx349_0
            replace hx349_1:=(HB.out.cell (World.block_lt_of_cell? w _ hx349_1)).trans hx349_1
            replace hx349_2:=(HB.out.cell (World.block_lt_of_cell? w _ hx349_2)).trans hx349_2
            replace p349:=eq_true p349
            replace q349:=eq_true q349
            refine start_ (n:=14) (S:=fun w' => w'.cell? ⟨gb344,0,none⟩ = some (.int .i64 a1_0) ∧ w'.cell? ⟨gb344,1,none⟩ = some (.int .i64 a1_1) ∧ w'.cell? ⟨gb344,2,none⟩ = some (.bool a1_2) ∧ w'.cell? (ad349.add ((x6_1).toNat * 3)) = some (.int .i64 ((rd_T41 l0 x6_1).f0)) ∧ w'.cell? ⟨(ad349.add ((x6_1).toNat * 3)).block,(ad349.add ((x6_1).toNat * 3)).off + 1,none⟩ = some (.int .i64 ((rd_T41 l0 x6_1).f1)) ∧ w'.cell? ⟨(ad349.add ((x6_1).toNat * 3)).block,(ad349.add ((x6_1).toNat * 3)).off + 2,none⟩ = some (.bool ((rd_T41 l0 x6_1).f2))) (ds := []) #[false,false,false,false,false,false,false,false,false,false,false,false,false,false] (by kernel_rfl) rfl rfl ⟨(blk_cell BK344.out 0).trans rfl,(blk_cell BK344.out 1).trans rfl,(blk_cell BK344.out 2).trans rfl,((HB.out.cell (World.block_lt_of_cell? w _ hw349_0)).trans hw349_0),((HB.out.cell (World.block_lt_of_cell? w _ hw349_1)).trans hw349_1),((HB.out.cell (World.block_lt_of_cell? w _ hw349_2)).trans hw349_2)⟩ (fun hHeld => ?_);refine with_tabW spec_AddReading.tab4 spec_AddReading.bits4 (fun HT_ HW_ => ?_)
            generalize wr.drew = w20 at BK344 HB hx349_0 hx349_1 hx349_2 hHeld ⊢
            refine pure_ (i:=0) (N:=some 12) (v:=?_) (a':=?_) #[true,false,false,false,false,false,false,false,false,false,false,false,false,false] rfl rfl (any_of HT_.out (by kernel_rfl)) (fun _ _ _ h => h) (Or.inl ⟨by rfl, ?_⟩) ?_ ?_
            rotate_left
            ·intro w'
             go_simp
             with_reducible rfl
            rotate_left
            ·simp only [Act.put,sA_,s0_,s1_,i64_w,i32_w]
             rfl
            refine pure_ (i:=1) (N:=some 13) (v:=?_) (a':=?_) #[true,true,false,false,false,false,false,false,false,false,false,false,false,false] rfl rfl (any_of HT_.out (by kernel_rfl)) (fun _ _ _ h => h) (Or.inl ⟨by rfl, ?_⟩) ?_ ?_
            rotate_left
            ·intro w'
             go_simp
             with_reducible rfl
            rotate_left
            ·simp only [Act.put,sA_,s0_,s1_,i64_w,i32_w]
             rfl
            refine pure_ (i:=2) (N:=some 14) (v:=?_) (a':=?_) #[true,true,true,false,false,false,false,false,false,false,false,false,false,false] rfl rfl (any_of HT_.out (by kernel_rfl)) (fun _ _ _ h => h) (Or.inl ⟨by rfl, ?_⟩) ?_ ?_
            rotate_left
            ·intro w'
             go_simp
             with_reducible rfl
            rotate_left
            ·simp only [Act.put,sA_,s0_,s1_,i64_w,i32_w]
             rfl
            refine pure_ (i:=3) (N:=some 15) (v:=?_) (a':=?_) #[true,true,true,true,false,false,false,false,false,false,false,false,false,false] rfl rfl (any_of HT_.out (by kernel_rfl)) (fun _ _ _ h => h) (Or.inl ⟨by rfl, ?_⟩) ?_ ?_
            rotate_left
            ·intro w'
             go_simp
             with_reducible rfl
            rotate_left
            ·simp only [Act.put,sA_,s0_,s1_,i64_w,i32_w]
             rfl
            refine pure_ (i:=4) (N:=some 16) (v:=?_) (a':=?_) #[true,true,true,true,true,false,false,false,false,false,false,false,false,false] rfl rfl (any_of HT_.out (by kernel_rfl)) (fun _ _ _ h => h) (Or.inl ⟨by rfl, ?_⟩) ?_ ?_
            rotate_left
            ·intro w'
             go_simp
             with_reducible rfl
            rotate_left
            ·simp only [Act.put,sA_,s0_,s1_,i64_w,i32_w]
             rfl
            refine pure_ (i:=5) (N:=some 17) (v:=?_) (a':=?_) #[true,true,true,true,true,true,false,false,false,false,false,false,false,false] rfl rfl (any_of HT_.out (by kernel_rfl)) (fun _ _ _ h => h) (Or.inl ⟨by rfl, ?_⟩) ?_ ?_
            rotate_left
            ·intro w'
             go_simp
             with_reducible rfl
            rotate_left
            ·simp only [Act.put,sA_,s0_,s1_,i64_w,i32_w]
             rfl
            refine pure_ (i:=6) (N:=some 18) (v:=?_) (a':=?_) #[true,true,true,true,true,true,true,false,false,false,false,false,false,false] rfl rfl (any_of HT_.out (by kernel_rfl)) (fun _ _ _ h => h) (Or.inl ⟨by rfl, ?_⟩) ?_ ?_
            rotate_left
            ·intro w'
             go_simp
             with_reducible rfl
            rotate_left
            ·simp only [Act.put,sA_,s0_,s1_,i64_w,i32_w]
             rfl
            refine pure_ (i:=7) (N:=some 19) (v:=?_) (a':=?_) #[true,true,true,true,true,true,true,true,false,false,false,false,false,false] rfl rfl (any_of HT_.out (by kernel_rfl)) (fun _ _ _ h => h) (Or.inl ⟨by rfl, ?_⟩) ?_ ?_
            rotate_left
            ·intro w'
             go_simp
             with_reducible rfl
            rotate_left
            ·simp only [Act.put,sA_,s0_,s1_,i64_w,i32_w]
             rfl
            refine pure_ (i:=8) (N:=some 20) (v:=?_) (a':=?_) #[true,true,true,true,true,true,true,true,true,false,false,false,false,false] rfl rfl (any_of HT_.out (by kernel_rfl)) (fun _ _ _ h => h) (Or.inl ⟨by rfl, ?_⟩) ?_ ?_
            rotate_left
            ·intro w'
             go_simp
             with_reducible rfl
            rotate_left
            ·simp only [Act.put,sA_,s0_,s1_,i64_w,i32_w]
             rfl
            refine pure_ (i:=10) (N:=some 22) (v:=?_) (a':=?_) #[true,true,true,true,true,true,true,true,true,false,true,false,false,false] rfl rfl (any_of HT_.out (by kernel_rfl)) (fun _ _ _ h => h) (Or.inl ⟨by rfl, ?_⟩) ?_ ?_
            rotate_left
            ·intro w'
             go_simp
             with_reducible rfl
            rotate_left
            ·simp only [Act.put,sA_,s0_,s1_,i64_w,i32_w]
             rfl
            refine take_ (i:=9) (N:=some 21) (v:=?_) (a':=?_) #[true,true,true,true,true,true,true,true,true,true,true,false,false,false] rfl rfl (take_ofW HT_.out HW_.out (by kernel_rfl)) (fun _ _ _ h => h) (Or.inl ⟨by rfl, ?_⟩) hHeld ?_ ?_
            rotate_left
            ·rintro w' ⟨s0,s1,s2,s3,s4,s5⟩
             go_simp
             with_reducible rfl
            rotate_left
            ·simp only [Act.put,sA_,s0_,s1_,i64_w,i32_w]
             rfl
            refine take_ (i:=11) (N:=some 23) (v:=?_) (a':=?_) #[true,true,true,true,true,true,true,true,true,true,true,true,false,false] rfl rfl (take_ofW HT_.out HW_.out (by kernel_rfl)) (fun _ _ _ h => h) (Or.inl ⟨by rfl, ?_⟩) hHeld ?_ ?_
            rotate_left
            ·rintro w' ⟨s0,s1,s2,s3,s4,s5⟩
             go_simp
             with_reducible rfl
            rotate_left
            ·simp only [Act.put,sA_,s0_,s1_,i64_w,i32_w]
             rfl
            refine pure_ (i:=12) (N:=some 24) (v:=?_) (a':=?_) #[true,true,true,true,true,true,true,true,true,true,true,true,true,false] rfl rfl (any_of HT_.out (by kernel_rfl)) (fun _ _ _ h => h) (Or.inl ⟨by rfl, ?_⟩) ?_ ?_
            rotate_left
            ·intro w'
             go_simp
             with_reducible rfl
            rotate_left
            ·simp only [Act.put,sA_,s0_,s1_,i64_w,i32_w]
             rfl
            refine pure_ (i:=13) (N:=some 25) (v:=?_) (a':=?_) #[true,true,true,true,true,true,true,true,true,true,true,true,true,true] rfl rfl (any_of HT_.out (by kernel_rfl)) (fun _ _ _ h => h) (Or.inl ⟨by rfl, ?_⟩) ?_ ?_
            rotate_left
            ·intro w'
             go_simp
             with_reducible rfl
            rotate_left
            ·simp only [Act.put,sA_,s0_,s1_,i64_w,i32_w]
             rfl
            refine done_ (done_of HT_.out (by kernel_rfl)) ?_
            try go_wp2
            have n0_:=Aside0.mk (blk_drew BK344.out)
            have n1_:=Aside0.mk (below_drew1 HB.out)
            clear BK344
            clear HB
            have BK344:=n0_
            have HB:=n1_
            clear n0_ n1_
            have q22 : (x6_1 : Int) ≤ ((l0.length : Int) : Int):=of_decide_eq_true (by (with_reducible assumption))
            obtain ⟨i022,hi022,_,hsz22,_⟩ := info_parts info41
            have hroom22 : l0.length ≤ c0:=HC0.out
            have hC22 : Kd.C k41 _ (some ad349) l0.length l0:=HR0.out
            have hcut22:=cut_to (P:=Tryd.prog) 30 41 .i64 Tryd.underlying30 hi022 (some ad349) l0.length c0 x6_1 (of_decide_eq_true (by (with_reducible assumption))) q22 hroom22
            have hr22:=Kd.C_take (m:=(x6_1 : Int).toNat) hC22 (by omega)
            have hy22 : y353.length = (x6_1 : Int).toNat:=(by rw [Ny353.out,List.length_take];omega)
            rw [← Ny353.out] at hr22
            rw [← hy22] at hcut22
            have HR356:=Aside0.mk hr22
            have HC356:=Aside0.mk (show y353.length ≤ c0 from by omega)
            clear hr22 hC22 hroom22 hi022 hsz22
            have KY22:=Aside0.mk hy22
            clear hy22
            replace q22:=eq_true q22
            have q23 : (x6_1 : Int) ≤ ((l0.length : Int) : Int):=of_decide_eq_true (by (with_reducible assumption))
            obtain ⟨i023,hi023,_,hsz23,_⟩ := info_parts info41
            have hroom23 : l0.length ≤ c0:=HC0.out
            have hC23 : Kd.C k41 _ (some ad349) l0.length l0:=HR0.out
            have q023 : (0 : Int) ≤ (x6_1 : Int):=of_decide_eq_true (by (with_reducible assumption))
            have hcut23:=cut_from (P:=Tryd.prog) 30 41 .i64 Tryd.underlying30 hi023 3 hsz23 (some ad349) l0.length c0 x6_1 q023 q23
            have hr23:=Kd.C_drop (m:=(x6_1 : Int).toNat) (c:=c0) hC23 (by omega) hroom23
            obtain ⟨A23,hA23⟩ : ∃ A1,A1 = (if c0 = (x6_1 : Int).toNat then (some ad349) else ((some ad349) : Option Addr).map (·.add ((x6_1 : Int).toNat * 3))):=⟨_,rfl⟩
            obtain ⟨c23,hc23⟩ : ∃ c1,c1 = c0 - (x6_1 : Int).toNat:=⟨_,rfl⟩
            have hy23 : y366.length = l0.length - (x6_1 : Int).toNat:=(by rw [Ny366.out,List.length_drop] <;> omega)
            rw [show (l0).drop (x6_1 : Int).toNat = y366 from Ny366.out.symm] at hr23
            replace hr23 : Kd.C k41 _ A23 y366.length y366:=(by rw [hA23];exact hr23)
            rw [← hy23,← hA23,← hc23] at hcut23
            have HR369:=Aside0.mk hr23
            have HC369:=Aside0.mk (show y366.length ≤ c23 from by rw [hy23,hc23];exact Nat.sub_le_sub_right hroom23 _)
            clear hr23 hC23 hroom23 hi023 hsz23 hc23
            have KY23:=Aside0.mk hy23
            have KA23:=Aside0.mk hA23
            clear hy23 hA23
            replace q23:=eq_true q23
            refine start_ (n:=13) (S:=fun w' => w'.cell? ⟨gb344,0,none⟩ = some (.int .i64 a1_0) ∧ w'.cell? ⟨gb344,1,none⟩ = some (.int .i64 a1_1) ∧ w'.cell? ⟨gb344,2,none⟩ = some (.bool a1_2)) (ds := []) #[false,false,false,false,false,false,false,false,false,false,false,false,false] (by kernel_rfl) rfl rfl ⟨(blk_cell BK344.out 0).trans rfl,(blk_cell BK344.out 1).trans rfl,(blk_cell BK344.out 2).trans rfl⟩ (fun hHeld => ?_);refine with_tabW spec_AddReading.tab6 spec_AddReading.bits6 (fun HT_ HW_ => ?_)
            generalize w20.drew = w21 at BK344 HB HR356 HR369 hHeld ⊢
            refine pure_ (i:=1) (N:=some 29) (v:=?_) (a':=?_) #[false,true,false,false,false,false,false,false,false,false,false,false,false] rfl rfl (any_of HT_.out (by kernel_rfl)) (fun _ _ _ h => h) (Or.inl ⟨by rfl, ?_⟩) ?_ ?_
            rotate_left
            ·intro w'
             go_simp
             with_reducible rfl
            rotate_left
            ·simp only [Act.put,sA_,s0_,s1_,i64_w,i32_w]
             rfl
            refine pure_ (i:=2) (N:=some 30) (v:=?_) (a':=?_) #[false,true,true,false,false,false,false,false,false,false,false,false,false] rfl rfl (any_of HT_.out (by kernel_rfl)) (fun _ _ _ h => h) (Or.inl ⟨by rfl, ?_⟩) ?_ ?_
            rotate_left
            ·intro w'
             go_simp
             with_reducible rfl
            rotate_left
            ·simp only [Act.put,sA_,s0_,s1_,i64_w,i32_w]
             rfl
            refine pure_ (i:=3) (N:=some 31) (v:=?_) (a':=?_) #[false,true,true,true,false,false,false,false,false,false,false,false,false] rfl rfl (any_of HT_.out (by kernel_rfl)) (fun _ _ _ h => h) (Or.inl ⟨by rfl, ?_⟩) ?_ ?_
            rotate_left
            ·intro w'
             go_simp
             with_reducible rfl
            rotate_left
            ·simp only [Act.put,sA_,s0_,s1_,i64_w,i32_w]
             rfl
            refine pure_ (i:=8) (N:=some 36) (v:=?_) (a':=?_) #[false,true,true,true,false,false,false,false,true,false,false,false,false] rfl rfl (any_of HT_.out (by kernel_rfl)) (fun _ _ _ h => h) (Or.inl ⟨by rfl, ?_⟩) ?_ ?_
            rotate_left
            ·intro w'
             go_simp
             with_reducible rfl
            rotate_left
            ·simp only [Act.put,sA_,s0_,s1_,i64_w,i32_w]
             rfl
            refine pure_ (i:=9) (N:=some 37) (v:=?_) (a':=?_) #[false,true,true,true,false,false,false,false,true,true,false,false,false] rfl rfl (any_of HT_.out (by kernel_rfl)) (fun _ _ _ h => h) (Or.inl ⟨by rfl, ?_⟩) ?_ ?_
            rotate_left
            ·intro w'
             go_simp
             with_reducible rfl
            rotate_left
            ·simp only [Act.put,sA_,s0_,s1_,i64_w,i32_w]
             rfl
            refine pure_ (i:=10) (N:=some 38) (v:=?_) (a':=?_) #[false,true,true,true,false,false,false,false,true,true,true,false,false] rfl rfl (any_of HT_.out (by kernel_rfl)) (fun _ _ _ h => h) (Or.inl ⟨by rfl, ?_⟩) ?_ ?_
            rotate_left
            ·intro w'
             go_simp
             with_reducible rfl
            rotate_left
            ·simp only [Act.put,sA_,s0_,s1_,i64_w,i32_w]
             rfl
            refine take_ (i:=5) (N:=some 33) (v:=?_) (a':=?_) #[false,true,true,true,false,true,false,false,true,true,true,false,false] rfl rfl (take_ofW HT_.out HW_.out (by kernel_rfl)) (fun _ _ _ h => h) (Or.inl ⟨by rfl, ?_⟩) hHeld ?_ ?_
            rotate_left
            ·rintro w' ⟨s0,s1,s2⟩
             go_simp
             with_reducible rfl
            rotate_left
            ·simp only [Act.put,sA_,s0_,s1_,i64_w,i32_w]
             rfl
            refine join_ (σ:=Value × Value × Value) 3 #[true,true,true,true,true,true,true,false,true,true,true,false,false] (fun s_ => [(28,s_.1),(32,s_.2.1),(34,s_.2.2)]) (fun s_ w' => (w'.cell? ⟨gb344,0,none⟩ = some (.int .i64 a1_0) ∧ w'.cell? ⟨gb344,1,none⟩ = some (.int .i64 a1_1) ∧ w'.cell? ⟨gb344,2,none⟩ = some (.bool a1_2)) ∧ (Kd.R k41 41 w' w.heap.size (fun k_ => some k_ ≠ (s_.2.2 : Value).ownBlock ∧ k_ ≠ gb344) s_.2.1 y357) ∧ (Kd.R k41 41 w' w.heap.size (fun k_ => some k_ ≠ (s_.2.1 : Value).ownBlock ∧ k_ ≠ gb344) s_.2.2 y360) ∧ (w'.heap[gb344]? = some (.cells #[.int .i64 a1_0, .int .i64 a1_1, .bool a1_2] 41 (0,0))) ∧ (Below w.heap.size w w')) ?_ ?_
            rotate_left
            ·intro hCont
             refine two_ (i:=0) (j:=6) (Ni:=some 28) (Nj:=some 34) #[true,true,true,true,false,true,false,false,true,true,true,false,false] #[false,true,true,true,false,true,true,false,true,true,true,false,false] rfl rfl rfl rfl (two_of HT_.out (by kernel_rfl)) (by decide) (by decide) (fun K hK => ?_) (fun K hK => ?_)
             ·skip
              refine Kd.R_lit_step k41 _ 41 ?hg (N:=28) ?hd (xs:=([] : List (S41))) (inner := []) (ok:=fun _ => True) (okp:=fun _ => True) ?hr ?hp (fun _ hk => hk) trivial (Below.refl _ _) (Nat.le_refl _) (by simp) ?_;(case hd => rfl);(case hg => rfl);(case hr => (go_simp;done));(case hp => exact (Reps.none _ _))
              intro v351 w24 ho25 hb hg_ hnew_
              clear hg_ hnew_
              (rw [← Ny350.out] at ho25)
              have n0_:=Aside0.mk (Kd.R_lower (Kd.R_newB ho25 (g:=gb344) (o := .cells #[.int .i64 a1_0, .int .i64 a1_1, .bool a1_2] 41 (0,0)) (by exact BK344.out)) (below_size (by exact HB.out)))
              have n1_:=Aside0.mk (blk_below (g:=gb344) (o := .cells #[.int .i64 a1_0, .int .i64 a1_1, .bool a1_2] 41 (0,0)) (by exact BK344.out) hb)
              have n2_:=Aside0.mk (below_step (by exact HB.out) hb)
              clear BK344
              clear HB
              have HO352:=n0_
              have BK344:=n1_
              have HB:=n2_
              clear n0_ n1_ n2_
              clear hb ho25
              refine hK.out _ _ ⟨(blk_cell BK344.out 0).trans rfl,(blk_cell BK344.out 1).trans rfl,(blk_cell BK344.out 2).trans rfl⟩ (fun hHeld => ?_)
              clear hK K
              refine norm_ (a':=?_) ?_ ?_
              rotate_left
              ·show Act.put _ (some 28) _ = _
               simp only [Act.put,sA_,s0_,s1_,i64_w,i32_w]
               rfl
              refine two_ (i:=4) (j:=6) (Ni:=some 32) (Nj:=some 34) #[true,true,true,true,true,true,false,false,true,true,true,false,false] #[true,true,true,true,false,true,true,false,true,true,true,false,false] rfl rfl rfl rfl (two_of HT_.out (by kernel_rfl)) (by decide) (by decide) (fun K hK => ?_) (fun K hK => ?_)
              ·skip
               refine Kd.R_append_rows_step k41 (w0:=w) w.heap.size (by rfl) (.tmp 28) (.tmp 31) 30 41 (.agg #[(.int .i64 0),(.int .i64 0),(.bool false)]) 24 rfl Tryd.underlying30 info41 rfl (by decide) (by omega) v351 y350 y353 _ _ _ (fun k_ => k_ ≠ gb344) (fun _ => False) rfl rfl ?aO ?aR (fun _ _ h => h) (fun _ h => h.elim) ?aF ?aB ?aS ?aL ?_
               (case aR => repeat (exact (Kd.C_below HR356.out HB.out)))
               (case aB => exact (by exact HB.out))
               (case aF => exact (fun k_ hk => Kd.freshB (g:=gb344) (o := .cells #[.int .i64 a1_0, .int .i64 a1_1, .bool a1_2] 41 (0,0)) (by exact BK344.out) k_ hk))
               (case aO => exact (by exact Kd.R_mono HO352.out (fun _ hk => hk.2)))
               (case aS => exact (below_size (by exact HB.out)))
               (case aL => have:=LMc13.out;omega)
               intro v358 w26 ho hb hg hat
               rw [← Ny357.out] at ho
               have n0_:=Aside0.mk (blk_grown (g:=gb344) (o := .cells #[.int .i64 a1_0, .int .i64 a1_1, .bool a1_2] 41 (0,0)) (by exact BK344.out) hg (Kd.R_away HO352.out (fun _ hk => hk.2)))
               have n1_:=Aside0.mk (hb)
               have n2_:=Aside0.mk (ho)
               clear BK344
               clear HB
               clear HO352
               have BK344:=n0_
               have HB:=n1_
               have HO359:=n2_
               clear n0_ n1_ n2_
               clear ho hb hg hat
               refine hK.out _ _ ⟨(blk_cell BK344.out 0).trans rfl,(blk_cell BK344.out 1).trans rfl,(blk_cell BK344.out 2).trans rfl⟩ (fun hHeld => ?_)
               clear hK K
               refine norm_ (a':=?_) ?_ ?_
               rotate_left
               ·show Act.put _ (some 32) _ = _
                simp only [Act.put,sA_,s0_,s1_,i64_w,i32_w]
                rfl
               refine one_ (i:=6) (N:=some 34) #[true,true,true,true,true,true,true,false,true,true,true,false,false] rfl rfl (one_of HT_.out (by kernel_rfl)) (by decide) (fun K hK => ?_)
               refine Kd.R_lit_step k41 _ 41 ?hg (N:=34) ?hd (xs:=([(⟨a1_0,a1_1,a1_2⟩ : S41)] : List (S41))) (inner := [.int .i64 a1_0, .int .i64 a1_1, .bool a1_2]) (ok:=fun _ => True) (okp:=fun _ => True) ?hr ?hp (fun _ hk => hk) trivial (Below.refl _ _) (Nat.le_refl _) (by simp) ?_;(case hd => rfl);(case hg => rfl);(case hr => (go_simp;done));(case hp => exact (Reps.c3 (show Kd.M k41 _ _ _ (⟨a1_0,a1_1,a1_2⟩ : S41) [.int .i64 a1_0, .int .i64 a1_1, .bool a1_2] from (k41_mkM _ _ _ (⟨a1_0,a1_1,a1_2⟩ : S41) )) (Reps.none _ _)))
               intro v361 w27 ho28 hb hg_ hnew_
               clear hg_ hnew_
               (rw [← Ny360.out] at ho28)
               have n0_:=Aside0.mk (Kd.R_elder' (by exact HO359.out) (Kd.R_base ho28) hb)
               have n1_:=Aside0.mk (Kd.R_lower (Kd.R_newB (Kd.R_new' ho28 (Kd.R_lt (by exact HO359.out))) (g:=gb344) (o := .cells #[.int .i64 a1_0, .int .i64 a1_1, .bool a1_2] 41 (0,0)) (by exact BK344.out)) (below_size (by exact HB.out)))
               have n2_:=Aside0.mk (blk_below (g:=gb344) (o := .cells #[.int .i64 a1_0, .int .i64 a1_1, .bool a1_2] 41 (0,0)) (by exact BK344.out) hb)
               have n3_:=Aside0.mk (below_step (by exact HB.out) hb)
               clear HO359
               clear BK344
               clear HB
               have HO359:=n0_
               have HO362:=n1_
               have BK344:=n2_
               have HB:=n3_
               clear n0_ n1_ n2_ n3_
               clear hb ho28
               refine hK.out _ _ ⟨(blk_cell BK344.out 0).trans rfl,(blk_cell BK344.out 1).trans rfl,(blk_cell BK344.out 2).trans rfl⟩ (fun hHeld => ?_)
               clear hK K
               refine norm_ (a':=?_) ?_ ?_
               rotate_left
               ·show Act.put _ (some 34) _ = _
                simp only [Act.put,sA_,s0_,s1_,i64_w,i32_w]
                rfl
               exact norm_ (by simp only [putAll,Act.put,sA_,s0_,s1_]) (hCont (v351,v358,v361) _ ⟨hHeld,(by exact Kd.R_mono HO359.out (fun _ hk => ⟨hk.2,hk.1⟩)),(by exact Kd.R_mono HO362.out (fun _ hk => ⟨hk.1.2,hk.2⟩)),(by exact BK344.out),(by exact HB.out)⟩)
              ·skip
               refine Kd.R_lit_step k41 _ 41 ?hg (N:=34) ?hd (xs:=([(⟨a1_0,a1_1,a1_2⟩ : S41)] : List (S41))) (inner := [.int .i64 a1_0, .int .i64 a1_1, .bool a1_2]) (ok:=fun _ => True) (okp:=fun _ => True) ?hr ?hp (fun _ hk => hk) trivial (Below.refl _ _) (Nat.le_refl _) (by simp) ?_;(case hd => rfl);(case hg => rfl);(case hr => (go_simp;done));(case hp => exact (Reps.c3 (show Kd.M k41 _ _ _ (⟨a1_0,a1_1,a1_2⟩ : S41) [.int .i64 a1_0, .int .i64 a1_1, .bool a1_2] from (k41_mkM _ _ _ (⟨a1_0,a1_1,a1_2⟩ : S41) )) (Reps.none _ _)))
               intro v361 w26 ho27 hb hg_ hnew_
               clear hg_ hnew_
               (rw [← Ny360.out] at ho27)
               have n0_:=Aside0.mk (Kd.R_elder' (by exact HO352.out) (Kd.R_base ho27) hb)
               have n1_:=Aside0.mk (Kd.R_lower (Kd.R_newB (Kd.R_new' ho27 (Kd.R_lt (by exact HO352.out))) (g:=gb344) (o := .cells #[.int .i64 a1_0, .int .i64 a1_1, .bool a1_2] 41 (0,0)) (by exact BK344.out)) (below_size (by exact HB.out)))
               have n2_:=Aside0.mk (blk_below (g:=gb344) (o := .cells #[.int .i64 a1_0, .int .i64 a1_1, .bool a1_2] 41 (0,0)) (by exact BK344.out) hb)
               have n3_:=Aside0.mk (below_step (by exact HB.out) hb)
               clear HO352
               clear BK344
               clear HB
               have HO352:=n0_
               have HO362:=n1_
               have BK344:=n2_
               have HB:=n3_
               clear n0_ n1_ n2_ n3_
               clear hb ho27
               refine hK.out _ _ ⟨(blk_cell BK344.out 0).trans rfl,(blk_cell BK344.out 1).trans rfl,(blk_cell BK344.out 2).trans rfl⟩ (fun hHeld => ?_)
               clear hK K
               refine norm_ (a':=?_) ?_ ?_
               rotate_left
               ·show Act.put _ (some 34) _ = _
                simp only [Act.put,sA_,s0_,s1_,i64_w,i32_w]
                rfl
               refine one_ (i:=4) (N:=some 32) #[true,true,true,true,true,true,true,false,true,true,true,false,false] rfl rfl (one_of HT_.out (by kernel_rfl)) (by decide) (fun K hK => ?_)
               refine Kd.R_append_rows_step k41 (w0:=w) w.heap.size (by rfl) (.tmp 28) (.tmp 31) 30 41 (.agg #[(.int .i64 0),(.int .i64 0),(.bool false)]) 24 rfl Tryd.underlying30 info41 rfl (by decide) (by omega) v351 y350 y353 _ _ _ (fun k_ => some k_ ≠ (v361 : Value).ownBlock ∧ k_ ≠ gb344) (fun _ => False) rfl rfl ?aO ?aR (fun _ _ h => h) (fun _ h => h.elim) ?aF ?aB ?aS ?aL ?_
               (case aR => repeat (exact (Kd.C_below HR356.out HB.out)))
               (case aB => exact (by exact HB.out))
               (case aF => exact (fun k_ hk => ⟨Kd.fresh' (Kd.R_lt (by exact HO362.out)) k_ hk,Kd.freshB (g:=gb344) (o := .cells #[.int .i64 a1_0, .int .i64 a1_1, .bool a1_2] 41 (0,0)) (by exact BK344.out) k_ hk⟩))
               (case aO => exact (by exact Kd.R_mono HO352.out (fun _ hk => ⟨hk.2,hk.1.2⟩)))
               (case aS => exact (below_size (by exact HB.out)))
               (case aL => have:=LMc13.out;omega)
               intro v358 w28 ho hb hg hat
               rw [← Ny357.out] at ho
               have n0_:=Aside0.mk (blk_grown (g:=gb344) (o := .cells #[.int .i64 a1_0, .int .i64 a1_1, .bool a1_2] 41 (0,0)) (by exact BK344.out) hg (Kd.R_away HO352.out (fun _ hk => hk.1.2)))
               have n1_:=Aside0.mk (Kd.R_after (ok:=(fun k_ => k_ ≠ gb344)) (by exact Kd.R_mono HO362.out (fun _ hk => ⟨hk.2,hk.1.2⟩)) hg hat)
               have n2_:=Aside0.mk (hb)
               have n3_:=Aside0.mk (ho)
               clear BK344
               clear HO362
               clear HB
               clear HO352
               have BK344:=n0_
               have HO362:=n1_
               have HB:=n2_
               have HO359:=n3_
               clear n0_ n1_ n2_ n3_
               clear ho hb hg hat
               refine hK.out _ _ ⟨(blk_cell BK344.out 0).trans rfl,(blk_cell BK344.out 1).trans rfl,(blk_cell BK344.out 2).trans rfl⟩ (fun hHeld => ?_)
               clear hK K
               refine norm_ (a':=?_) ?_ ?_
               rotate_left
               ·show Act.put _ (some 32) _ = _
                simp only [Act.put,sA_,s0_,s1_,i64_w,i32_w]
                rfl
               exact norm_ (by simp only [putAll,Act.put,sA_,s0_,s1_]) (hCont (v351,v358,v361) _ ⟨hHeld,(by exact HO359.out),(by exact Kd.R_mono HO362.out (fun _ hk => ⟨hk.2,hk.1⟩)),(by exact BK344.out),(by exact HB.out)⟩)
             ·skip
              refine Kd.R_lit_step k41 _ 41 ?hg (N:=34) ?hd (xs:=([(⟨a1_0,a1_1,a1_2⟩ : S41)] : List (S41))) (inner := [.int .i64 a1_0, .int .i64 a1_1, .bool a1_2]) (ok:=fun _ => True) (okp:=fun _ => True) ?hr ?hp (fun _ hk => hk) trivial (Below.refl _ _) (Nat.le_refl _) (by simp) ?_;(case hd => rfl);(case hg => rfl);(case hr => (go_simp;done));(case hp => exact (Reps.c3 (show Kd.M k41 _ _ _ (⟨a1_0,a1_1,a1_2⟩ : S41) [.int .i64 a1_0, .int .i64 a1_1, .bool a1_2] from (k41_mkM _ _ _ (⟨a1_0,a1_1,a1_2⟩ : S41) )) (Reps.none _ _)))
              intro v361 w24 ho25 hb hg_ hnew_
              clear hg_ hnew_
              (rw [← Ny360.out] at ho25)
              have n0_:=Aside0.mk (Kd.R_lower (Kd.R_newB ho25 (g:=gb344) (o := .cells #[.int .i64 a1_0, .int .i64 a1_1, .bool a1_2] 41 (0,0)) (by exact BK344.out)) (below_size (by exact HB.out)))
              have n1_:=Aside0.mk (blk_below (g:=gb344) (o := .cells #[.int .i64 a1_0, .int .i64 a1_1, .bool a1_2] 41 (0,0)) (by exact BK344.out) hb)
              have n2_:=Aside0.mk (below_step (by exact HB.out) hb)
              clear BK344
              clear HB
              have HO362:=n0_
              have BK344:=n1_
              have HB:=n2_
              clear n0_ n1_ n2_
              clear hb ho25
              refine hK.out _ _ ⟨(blk_cell BK344.out 0).trans rfl,(blk_cell BK344.out 1).trans rfl,(blk_cell BK344.out 2).trans rfl⟩ (fun hHeld => ?_)
              clear hK K
              refine norm_ (a':=?_) ?_ ?_
              rotate_left
              ·show Act.put _ (some 34) _ = _
               simp only [Act.put,sA_,s0_,s1_,i64_w,i32_w]
               rfl
              refine one_ (i:=0) (N:=some 28) #[true,true,true,true,false,true,true,false,true,true,true,false,false] rfl rfl (one_of HT_.out (by kernel_rfl)) (by decide) (fun K hK => ?_)
              refine Kd.R_lit_step k41 _ 41 ?hg (N:=28) ?hd (xs:=([] : List (S41))) (inner := []) (ok:=fun _ => True) (okp:=fun _ => True) ?hr ?hp (fun _ hk => hk) trivial (Below.refl _ _) (Nat.le_refl _) (by simp) ?_;(case hd => rfl);(case hg => rfl);(case hr => (go_simp;done));(case hp => exact (Reps.none _ _))
              intro v351 w26 ho27 hb hg_ hnew_
              clear hg_ hnew_
              (rw [← Ny350.out] at ho27)
              have n0_:=Aside0.mk (Kd.R_elder' (by exact HO362.out) (Kd.R_base ho27) hb)
              have n1_:=Aside0.mk (Kd.R_lower (Kd.R_newB (Kd.R_new' ho27 (Kd.R_lt (by exact HO362.out))) (g:=gb344) (o := .cells #[.int .i64 a1_0, .int .i64 a1_1, .bool a1_2] 41 (0,0)) (by exact BK344.out)) (below_size (by exact HB.out)))
              have n2_:=Aside0.mk (blk_below (g:=gb344) (o := .cells #[.int .i64 a1_0, .int .i64 a1_1, .bool a1_2] 41 (0,0)) (by exact BK344.out) hb)
              have n3_:=Aside0.mk (below_step (by exact HB.out) hb)
              clear HO362
              clear BK344
              clear HB
              have HO362:=n0_
              have HO352:=n1_
              have BK344:=n2_
              have HB:=n3_
              clear n0_ n1_ n2_ n3_
              clear hb ho27
              refine hK.out _ _ ⟨(blk_cell BK344.out 0).trans rfl,(blk_cell BK344.out 1).trans rfl,(blk_cell BK344.out 2).trans rfl⟩ (fun hHeld => ?_)
              clear hK K
              refine norm_ (a':=?_) ?_ ?_
              rotate_left
              ·show Act.put _ (some 28) _ = _
               simp only [Act.put,sA_,s0_,s1_,i64_w,i32_w]
               rfl
              refine one_ (i:=4) (N:=some 32) #[true,true,true,true,true,true,true,false,true,true,true,false,false] rfl rfl (one_of HT_.out (by kernel_rfl)) (by decide) (fun K hK => ?_)
              refine Kd.R_append_rows_step k41 (w0:=w) w.heap.size (by rfl) (.tmp 28) (.tmp 31) 30 41 (.agg #[(.int .i64 0),(.int .i64 0),(.bool false)]) 24 rfl Tryd.underlying30 info41 rfl (by decide) (by omega) v351 y350 y353 _ _ _ (fun k_ => some k_ ≠ (v361 : Value).ownBlock ∧ k_ ≠ gb344) (fun _ => False) rfl rfl ?aO ?aR (fun _ _ h => h) (fun _ h => h.elim) ?aF ?aB ?aS ?aL ?_
              (case aR => repeat (exact (Kd.C_below HR356.out HB.out)))
              (case aB => exact (by exact HB.out))
              (case aF => exact (fun k_ hk => ⟨Kd.fresh' (Kd.R_lt (by exact HO362.out)) k_ hk,Kd.freshB (g:=gb344) (o := .cells #[.int .i64 a1_0, .int .i64 a1_1, .bool a1_2] 41 (0,0)) (by exact BK344.out) k_ hk⟩))
              (case aO => exact (by exact Kd.R_mono HO352.out (fun _ hk => ⟨hk.1.2,hk.2⟩)))
              (case aS => exact (below_size (by exact HB.out)))
              (case aL => have:=LMc13.out;omega)
              intro v358 w28 ho hb hg hat
              rw [← Ny357.out] at ho
              have n0_:=Aside0.mk (blk_grown (g:=gb344) (o := .cells #[.int .i64 a1_0, .int .i64 a1_1, .bool a1_2] 41 (0,0)) (by exact BK344.out) hg (Kd.R_away HO352.out (fun _ hk => hk.2)))
              have n1_:=Aside0.mk (Kd.R_after (ok:=(fun k_ => k_ ≠ gb344)) (by exact Kd.R_mono HO362.out (fun _ hk => ⟨hk.1.2,hk.2⟩)) hg hat)
              have n2_:=Aside0.mk (hb)
              have n3_:=Aside0.mk (ho)
              clear BK344
              clear HO362
              clear HB
              clear HO352
              have BK344:=n0_
              have HO362:=n1_
              have HB:=n2_
              have HO359:=n3_
              clear n0_ n1_ n2_ n3_
              clear ho hb hg hat
              refine hK.out _ _ ⟨(blk_cell BK344.out 0).trans rfl,(blk_cell BK344.out 1).trans rfl,(blk_cell BK344.out 2).trans rfl⟩ (fun hHeld => ?_)
              clear hK K
              refine norm_ (a':=?_) ?_ ?_
              rotate_left
              ·show Act.put _ (some 32) _ = _
               simp only [Act.put,sA_,s0_,s1_,i64_w,i32_w]
               rfl
              exact norm_ (by simp only [putAll,Act.put,sA_,s0_,s1_]) (hCont (v351,v358,v361) _ ⟨hHeld,(by exact HO359.out),(by exact Kd.R_mono HO362.out (fun _ hk => ⟨hk.2,hk.1⟩)),(by exact BK344.out),(by exact HB.out)⟩)
            rintro ⟨v351,v358,v361⟩ w29 ⟨hS_,h0_,h1_,h2_,h3_⟩
            have n0_ : Aside0 (Kd.R k41 41 w29 w.heap.size (fun k_ => some k_ ≠ (v361 : Value).ownBlock ∧ k_ ≠ gb344) v358 y357):=⟨h0_⟩
            have n1_ : Aside0 (Kd.R k41 41 w29 w.heap.size (fun k_ => some k_ ≠ (v358 : Value).ownBlock ∧ k_ ≠ gb344) v361 y360):=⟨h1_⟩
            have n2_ : Aside0 (w29.heap[gb344]? = some (.cells #[.int .i64 a1_0, .int .i64 a1_1, .bool a1_2] 41 (0,0))):=⟨h2_⟩
            have n3_ : Aside0 (Below w.heap.size w w29):=⟨h3_⟩
            clear BK344
            clear HB
            clear h0_ h1_ h2_ h3_
            have HO359:=n0_
            have HO362:=n1_
            have BK344:=n2_
            have HB:=n3_
            clear n0_ n1_ n2_ n3_
            have hHeld : w29.cell? ⟨gb344,0,none⟩ = some (.int .i64 a1_0) ∧ w29.cell? ⟨gb344,1,none⟩ = some (.int .i64 a1_1) ∧ w29.cell? ⟨gb344,2,none⟩ = some (.bool a1_2):=hS_
            obtain ⟨Ao31,co31,eo31⟩ := Kd.R_slice HO362.out
            (subst eo31)
            refine norm_ (a':=?_) ?_ ?_
            rotate_left
            ·simp only [putAll,Act.put,sA_,s0_,s1_]
             rfl
            refine one_ (i:=7) (N:=some 35) #[true,true,true,true,true,true,true,true,true,true,true,false,false] rfl rfl (one_of HT_.out (by kernel_rfl)) (by decide) (fun K hK => ?_)
            refine Kd.R_append_rows_step k41 (w0:=w) w.heap.size (by rfl) (.tmp 32) (.tmp 34) 30 41 (.agg #[(.int .i64 0),(.int .i64 0),(.bool false)]) 24 rfl Tryd.underlying30 info41 rfl (by decide) (by omega) v358 y357 y360 _ _ _ (fun k_ => some k_ ≠ (.slice Ao31 y360.length co31 : Value).ownBlock ∧ k_ ≠ gb344) (fun _ => False) rfl rfl ?aO ?aR (fun _ _ h => h) (fun _ h => h.elim) ?aF ?aB ?aS ?aL ?_
            (case aR => repeat (exact (Kd.R_reads' HO362.out).2.2))
            (case aB => exact (by exact HB.out))
            (case aF => exact (fun k_ hk => ⟨Kd.fresh' (Kd.R_lt (by exact HO362.out)) k_ hk,Kd.freshB (g:=gb344) (o := .cells #[.int .i64 a1_0, .int .i64 a1_1, .bool a1_2] 41 (0,0)) (by exact BK344.out) k_ hk⟩))
            (case aO => exact (by exact HO359.out))
            (case aS => exact (below_size (by exact HB.out)))
            (case aL => have:=LMc14.out;omega)
            intro v364 w30 ho hb hg hat
            rw [← Ny363.out] at ho
            have n0_:=Aside0.mk (blk_grown (g:=gb344) (o := .cells #[.int .i64 a1_0, .int .i64 a1_1, .bool a1_2] 41 (0,0)) (by exact BK344.out) hg (Kd.R_away HO359.out (fun _ hk => hk.2)))
            have n1_:=Aside0.mk (Kd.R_after (ok:=(fun k_ => k_ ≠ gb344)) (by exact Kd.R_mono HO362.out (fun _ hk => ⟨hk.2,hk.1⟩)) hg hat)
            have n2_:=Aside0.mk (hb)
            have n3_:=Aside0.mk (ho)
            clear BK344
            clear HO362
            clear HB
            clear HO359
            have BK344:=n0_
            have HO362:=n1_
            have HB:=n2_
            have HO365:=n3_
            clear n0_ n1_ n2_ n3_
            clear ho hb hg hat
            refine hK.out _ _ ⟨(blk_cell BK344.out 0).trans rfl,(blk_cell BK344.out 1).trans rfl,(blk_cell BK344.out 2).trans rfl⟩ (fun hHeld => ?_)
            clear hK K
            refine norm_ (a':=?_) ?_ ?_
            rotate_left
            ·show Act.put _ (some 35) _ = _
             simp only [Act.put,sA_,s0_,s1_,i64_w,i32_w]
             rfl
            refine one_ (i:=11) (N:=some 39) #[true,true,true,true,true,true,true,true,true,true,true,true,false] rfl rfl (one_of HT_.out (by kernel_rfl)) (by decide) (fun K hK => ?_)
            refine Kd.R_append_rows_step k41 (w0:=w) w.heap.size (by rfl) (.tmp 35) (.tmp 38) 30 41 (.agg #[(.int .i64 0),(.int .i64 0),(.bool false)]) 24 rfl Tryd.underlying30 info41 rfl (by decide) (by omega) v364 y363 y366 _ _ _ (fun k_ => some k_ ≠ (.slice Ao31 y360.length co31 : Value).ownBlock ∧ k_ ≠ gb344) (fun _ => False) rfl rfl ?aO ?aR (fun _ _ h => h) (fun _ h => h.elim) ?aF ?aB ?aS ?aL ?_
            (case aR => repeat (exact (Kd.C_below HR369.out HB.out)))
            (case aB => exact (by exact HB.out))
            (case aF => exact (fun k_ hk => ⟨Kd.fresh' (Kd.R_lt (by exact HO362.out)) k_ hk,Kd.freshB (g:=gb344) (o := .cells #[.int .i64 a1_0, .int .i64 a1_1, .bool a1_2] 41 (0,0)) (by exact BK344.out) k_ hk⟩))
            (case aO => exact (by exact HO365.out))
            (case aS => exact (below_size (by exact HB.out)))
            (case aL => have:=LMc17.out;omega)
            intro v371 w32 ho hb hg hat
            rw [← Ny370.out] at ho
            have n0_:=Aside0.mk (blk_grown (g:=gb344) (o := .cells #[.int .i64 a1_0, .int .i64 a1_1, .bool a1_2] 41 (0,0)) (by exact BK344.out) hg (Kd.R_away HO365.out (fun _ hk => hk.2)))
            have n1_:=Aside0.mk (Kd.R_after (ok:=(fun k_ => k_ ≠ gb344)) (by exact HO362.out) hg hat)
            have n2_:=Aside0.mk (hb)
            have n3_:=Aside0.mk (ho)
            clear BK344
            clear HO362
            clear HB
            clear HO365
            have BK344:=n0_
            have HO362:=n1_
            have HB:=n2_
            have HO372:=n3_
            clear n0_ n1_ n2_ n3_
            clear ho hb hg hat
            refine hK.out _ _ ⟨(blk_cell BK344.out 0).trans rfl,(blk_cell BK344.out 1).trans rfl,(blk_cell BK344.out 2).trans rfl⟩ (fun hHeld => ?_)
            clear hK K
            refine norm_ (a':=?_) ?_ ?_
            rotate_left
            ·show Act.put _ (some 39) _ = _
             simp only [Act.put,sA_,s0_,s1_,i64_w,i32_w]
             rfl
            refine pure_ (i:=12) (N:=some 7) (v:=?_) (a':=?_) #[true,true,true,true,true,true,true,true,true,true,true,true,true] rfl rfl (any_of HT_.out (by kernel_rfl)) (fun _ _ _ h => h) (Or.inl ⟨by rfl, ?_⟩) ?_ ?_
            rotate_left
            ·intro w'
             go_simp
             with_reducible rfl
            rotate_left
            ·simp only [Act.put,sA_,s0_,s1_,i64_w,i32_w]
             rfl
            refine done_ (done_of HT_.out (by kernel_rfl)) ?_
            obtain ⟨Ao33,co33,eo33⟩ := Kd.R_slice HO372.out
            subst eo33
            try go_wp2_with (((with_reducible refine gate_callee (f:=39) rfl ?_);refine goesL_ (some 41) rfl rfl Tryd.func39 (by kernel_rfl) rfl #[.slice Ao33 y370.length co33] rfl (by (try simp only [List.map_toArray,List.map_cons,List.map_nil]);rfl) ?_;(with_reducible refine (spec_l21Good.calls k1 _ _ y370 true _ ?side1 ?side2 A18.out).mono ?_);(case side1 => repeat (exact (Kd.R_reads' HO372.out).2.2));(case side2 => exact (Kd.R_reads' HO372.out).2.1);rintro e w34 ⟨rfl,hb⟩;refine ⟨_,rfl, ?_⟩;have n0_:=Aside0.mk (Kd.R_below (by exact HO362.out) hb);have n1_:=Aside0.mk (Kd.R_below (by exact HO372.out) hb);have n2_:=Aside0.mk (blk_below (g:=gb344) (o := .cells #[.int .i64 a1_0, .int .i64 a1_1, .bool a1_2] 41 (0,0)) (by exact BK344.out) hb);have n3_:=Aside0.mk (below_step (by exact HB.out) hb);clear HO362;clear HO372;clear BK344;clear HB;have HO362:=n0_;have HO372:=n1_;have BK344:=n2_;have HB:=n3_;clear n0_ n1_ n2_ n3_;(try clear hb)))
            go_ret2
            exact ⟨_,by rfl,by exact Kd.R_mono HO372.out (fun _ hk => trivial),by exact HB.out⟩
           ·replace c19:=Bool.eq_false_iff.mpr c19
            subst c19
            have H1 : (some ((([] : List (S41))),false)) = some (r1,r2):=by rw [if_neg (show ¬ (false = true) by decide)] at H;exact H
            clear H
            have H:=H1
            clear H1
            obtain ⟨y374,hy374⟩ : ∃ y_ : List (S41),y_ = (([] : List (S41))):=⟨_,rfl⟩
            replace H : (some (y374,false)) = some (r1,r2):=by (rw [hy374];with_reducible exact H)
            have Ny374:=Aside0.mk hy374
            clear hy374
            simp only [Option.some.injEq,Prod.mk.injEq] at H
            obtain ⟨rfl,rfl⟩ := H
            try go_wp2
            have n0_:=Aside0.mk (blk_drew BK344.out)
            have n1_:=Aside0.mk (below_drew1 HB.out)
            clear BK344
            clear HB
            have BK344:=n0_
            have HB:=n1_
            clear n0_ n1_
            have p349 : 0 ≤ (x6_1 : Int):=of_decide_eq_true (by (with_reducible assumption))
            have q349 : x6_1 < (l0.length : Int):=of_decide_eq_true (by (with_reducible assumption))
            obtain ⟨ad349,e349,hx349_0,hx349_1,hx349_2⟩ := at_T41 HR0.out x6_1 p349 q349
            have hw349_2:=hx349_2
            have hw349_1:=hx349_1
            have hw349_0:=hx349_0
            cases e349
            replace hx349_0:=(HB.out.cell (World.block_lt_of_cell? w _ hx349_0)).trans hx349_0
            replace hx349_1:=(HB.out.cell (World.block_lt_of_cell? w _ hx349_1)).trans hx349_1
            replace hx349_2:=(HB.out.cell (World.block_lt_of_cell? w _ hx349_2)).trans hx349_2
            replace p349:=eq_true p349
            replace q349:=eq_true q349
            refine start_ (n:=14) (S:=fun w' => w'.cell? ⟨gb344,0,none⟩ = some (.int .i64 a1_0) ∧ w'.cell? ⟨gb344,1,none⟩ = some (.int .i64 a1_1) ∧ w'.cell? ⟨gb344,2,none⟩ = some (.bool a1_2) ∧ w'.cell? (ad349.add ((x6_1).toNat * 3)) = some (.int .i64 ((rd_T41 l0 x6_1).f0)) ∧ w'.cell? ⟨(ad349.add ((x6_1).toNat * 3)).block,(ad349.add ((x6_1).toNat * 3)).off + 1,none⟩ = some (.int .i64 ((rd_T41 l0 x6_1).f1)) ∧ w'.cell? ⟨(ad349.add ((x6_1).toNat * 3)).block,(ad349.add ((x6_1).toNat * 3)).off + 2,none⟩ = some (.bool ((rd_T41 l0 x6_1).f2))) (ds := []) #[false,false,false,false,false,false,false,false,false,false,false,false,false,false] (by kernel_rfl) rfl rfl ⟨(blk_cell BK344.out 0).trans rfl,(blk_cell BK344.out 1).trans rfl,(blk_cell BK344.out 2).trans rfl,((HB.out.cell (World.block_lt_of_cell? w _ hw349_0)).trans hw349_0),((HB.out.cell (World.block_lt_of_cell? w _ hw349_1)).trans hw349_1),((HB.out.cell (World.block_lt_of_cell? w _ hw349_2)).trans hw349_2)⟩ (fun hHeld => ?_);refine with_tabW spec_AddReading.tab4 spec_AddReading.bits4 (fun HT_ HW_ => ?_)
            generalize wr.drew = w35 at BK344 HB hx349_0 hx349_1 hx349_2 hHeld ⊢
            refine pure_ (i:=0) (N:=some 12) (v:=?_) (a':=?_) #[true,false,false,false,false,false,false,false,false,false,false,false,false,false] rfl rfl (any_of HT_.out (by kernel_rfl)) (fun _ _ _ h => h) (Or.inl ⟨by rfl, ?_⟩) ?_ ?_
            rotate_left
            ·intro w'
             go_simp
             with_reducible rfl
            rotate_left
            ·simp only [Act.put,sA_,s0_,s1_,i64_w,i32_w]
             rfl
            refine pure_ (i:=1) (N:=some 13) (v:=?_) (a':=?_) #[true,true,false,false,false,false,false,false,false,false,false,false,false,false] rfl rfl (any_of HT_.out (by kernel_rfl)) (fun _ _ _ h => h) (Or.inl ⟨by rfl, ?_⟩) ?_ ?_
            rotate_left
            ·intro w'
             go_simp
             with_reducible rfl
            rotate_left
            ·simp only [Act.put,sA_,s0_,s1_,i64_w,i32_w]
             rfl
            refine pure_ (i:=2) (N:=some 14) (v:=?_) (a':=?_) #[true,true,true,false,false,false,false,false,false,false,false,false,false,false] rfl rfl (any_of HT_.out (by kernel_rfl)) (fun _ _ _ h => h) (Or.inl ⟨by rfl, ?_⟩) ?_ ?_
            rotate_left
            ·intro w'
             go_simp
             with_reducible rfl
            rotate_left
            ·simp only [Act.put,sA_,s0_,s1_,i64_w,i32_w]
             rfl
            refine pure_ (i:=3) (N:=some 15) (v:=?_) (a':=?_) #[true,true,true,true,false,false,false,false,false,false,false,false,false,false] rfl rfl (any_of HT_.out (by kernel_rfl)) (fun _ _ _ h => h) (Or.inl ⟨by rfl, ?_⟩) ?_ ?_
            rotate_left
            ·intro w'
             go_simp
             with_reducible rfl
            rotate_left
            ·simp only [Act.put,sA_,s0_,s1_,i64_w,i32_w]
             rfl
            refine pure_ (i:=4) (N:=some 16) (v:=?_) (a':=?_) #[true,true,true,true,true,false,false,false,false,false,false,false,false,false] rfl rfl (any_of HT_.out (by kernel_rfl)) (fun _ _ _ h => h) (Or.inl ⟨by rfl, ?_⟩) ?_ ?_
            rotate_left
            ·intro w'
             go_simp
             with_reducible rfl
            rotate_left
            ·simp only [Act.put,sA_,s0_,s1_,i64_w,i32_w]
             rfl
            refine pure_ (i:=5) (N:=some 17) (v:=?_) (a':=?_) #[true,true,true,true,true,true,false,false,false,false,false,false,false,false] rfl rfl (any_of HT_.out (by kernel_rfl)) (fun _ _ _ h => h) (Or.inl ⟨by rfl, ?_⟩) ?_ ?_
            rotate_left
            ·intro w'
             go_simp
             with_reducible rfl
            rotate_left
            ·simp only [Act.put,sA_,s0_,s1_,i64_w,i32_w]
             rfl
            refine pure_ (i:=6) (N:=some 18) (v:=?_) (a':=?_) #[true,true,true,true,true,true,true,false,false,false,false,false,false,false] rfl rfl (any_of HT_.out (by kernel_rfl)) (fun _ _ _ h => h) (Or.inl ⟨by rfl, ?_⟩) ?_ ?_
            rotate_left
            ·intro w'
             go_simp
             with_reducible rfl
            rotate_left
            ·simp only [Act.put,sA_,s0_,s1_,i64_w,i32_w]
             rfl
            refine pure_ (i:=7) (N:=some 19) (v:=?_) (a':=?_) #[true,true,true,true,true,true,true,true,false,false,false,false,false,false] rfl rfl (any_of HT_.out (by kernel_rfl)) (fun _ _ _ h => h) (Or.inl ⟨by rfl, ?_⟩) ?_ ?_
            rotate_left
            ·intro w'
             go_simp
             with_reducible rfl
            rotate_left
            ·simp only [Act.put,sA_,s0_,s1_,i64_w,i32_w]
             rfl
            refine pure_ (i:=8) (N:=some 20) (v:=?_) (a':=?_) #[true,true,true,true,true,true,true,true,true,false,false,false,false,false] rfl rfl (any_of HT_.out (by kernel_rfl)) (fun _ _ _ h => h) (Or.inl ⟨by rfl, ?_⟩) ?_ ?_
            rotate_left
            ·intro w'
             go_simp
             with_reducible rfl
            rotate_left
            ·simp only [Act.put,sA_,s0_,s1_,i64_w,i32_w]
             rfl
            refine pure_ (i:=10) (N:=some 22) (v:=?_) (a':=?_) #[true,true,true,true,true,true,true,true,true,false,true,false,false,false] rfl rfl (any_of HT_.out (by kernel_rfl)) (fun _ _ _ h => h) (Or.inl ⟨by rfl, ?_⟩) ?_ ?_
            rotate_left
            ·intro w'
             go_simp
             with_reducible rfl
            rotate_left
            ·simp only [Act.put,sA_,s0_,s1_,i64_w,i32_w]
             rfl
            refine take_ (i:=9) (N:=some 21) (v:=?_) (a':=?_) #[true,true,true,true,true,true,true,true,true,true,true,false,false,false] rfl rfl (take_ofW HT_.out HW_.out (by kernel_rfl)) (fun _ _ _ h => h) (Or.inl ⟨by rfl, ?_⟩) hHeld ?_ ?_
            rotate_left
            ·rintro w' ⟨s0,s1,s2,s3,s4,s5⟩
             go_simp
             with_reducible rfl
            rotate_left
            ·simp only [Act.put,sA_,s0_,s1_,i64_w,i32_w]
             rfl
            refine take_ (i:=11) (N:=some 23) (v:=?_) (a':=?_) #[true,true,true,true,true,true,true,true,true,true,true,true,false,false] rfl rfl (take_ofW HT_.out HW_.out (by kernel_rfl)) (fun _ _ _ h => h) (Or.inl ⟨by rfl, ?_⟩) hHeld ?_ ?_
            rotate_left
            ·rintro w' ⟨s0,s1,s2,s3,s4,s5⟩
             go_simp
             with_reducible rfl
            rotate_left
            ·simp only [Act.put,sA_,s0_,s1_,i64_w,i32_w]
             rfl
            refine pure_ (i:=12) (N:=some 24) (v:=?_) (a':=?_) #[true,true,true,true,true,true,true,true,true,true,true,true,true,false] rfl rfl (any_of HT_.out (by kernel_rfl)) (fun _ _ _ h => h) (Or.inl ⟨by rfl, ?_⟩) ?_ ?_
            rotate_left
            ·intro w'
             go_simp
             with_reducible rfl
            rotate_left
            ·simp only [Act.put,sA_,s0_,s1_,i64_w,i32_w]
             rfl
            refine pure_ (i:=13) (N:=some 25) (v:=?_) (a':=?_) #[true,true,true,true,true,true,true,true,true,true,true,true,true,true] rfl rfl (any_of HT_.out (by kernel_rfl)) (fun _ _ _ h => h) (Or.inl ⟨by rfl, ?_⟩) ?_ ?_
            rotate_left
            ·intro w'
             go_simp
             with_reducible rfl
            rotate_left
            ·simp only [Act.put,sA_,s0_,s1_,i64_w,i32_w]
             rfl
            refine done_ (done_of HT_.out (by kernel_rfl)) ?_
            try go_wp2
            have n0_:=Aside0.mk (blk_drew BK344.out)
            have n1_:=Aside0.mk (below_drew1 HB.out)
            clear BK344
            clear HB
            have BK344:=n0_
            have HB:=n1_
            clear n0_ n1_
            have q37 : (x6_1 : Int) ≤ ((l0.length : Int) : Int):=of_decide_eq_true (by (with_reducible assumption))
            obtain ⟨i037,hi037,_,hsz37,_⟩ := info_parts info41
            have hroom37 : l0.length ≤ c0:=HC0.out
            have hC37 : Kd.C k41 _ (some ad349) l0.length l0:=HR0.out
            have hcut37:=cut_to (P:=Tryd.prog) 30 41 .i64 Tryd.underlying30 hi037 (some ad349) l0.length c0 x6_1 (of_decide_eq_true (by (with_reducible assumption))) q37 hroom37
            have hr37:=Kd.C_take (m:=(x6_1 : Int).toNat) hC37 (by omega)
            have hy37 : y353.length = (x6_1 : Int).toNat:=(by rw [Ny353.out,List.length_take];omega)
            rw [← Ny353.out] at hr37
            rw [← hy37] at hcut37
            have HR356:=Aside0.mk hr37
            have HC356:=Aside0.mk (show y353.length ≤ c0 from by omega)
            clear hr37 hC37 hroom37 hi037 hsz37
            have KY37:=Aside0.mk hy37
            clear hy37
            replace q37:=eq_true q37
            have q38 : (x6_1 : Int) ≤ ((l0.length : Int) : Int):=of_decide_eq_true (by (with_reducible assumption))
            obtain ⟨i038,hi038,_,hsz38,_⟩ := info_parts info41
            have hroom38 : l0.length ≤ c0:=HC0.out
            have hC38 : Kd.C k41 _ (some ad349) l0.length l0:=HR0.out
            have q038 : (0 : Int) ≤ (x6_1 : Int):=of_decide_eq_true (by (with_reducible assumption))
            have hcut38:=cut_from (P:=Tryd.prog) 30 41 .i64 Tryd.underlying30 hi038 3 hsz38 (some ad349) l0.length c0 x6_1 q038 q38
            have hr38:=Kd.C_drop (m:=(x6_1 : Int).toNat) (c:=c0) hC38 (by omega) hroom38
            obtain ⟨A38,hA38⟩ : ∃ A1,A1 = (if c0 = (x6_1 : Int).toNat then (some ad349) else ((some ad349) : Option Addr).map (·.add ((x6_1 : Int).toNat * 3))):=⟨_,rfl⟩
            obtain ⟨c38,hc38⟩ : ∃ c1,c1 = c0 - (x6_1 : Int).toNat:=⟨_,rfl⟩
            have hy38 : y366.length = l0.length - (x6_1 : Int).toNat:=(by rw [Ny366.out,List.length_drop] <;> omega)
            rw [show (l0).drop (x6_1 : Int).toNat = y366 from Ny366.out.symm] at hr38
            replace hr38 : Kd.C k41 _ A38 y366.length y366:=(by rw [hA38];exact hr38)
            rw [← hy38,← hA38,← hc38] at hcut38
            have HR369:=Aside0.mk hr38
            have HC369:=Aside0.mk (show y366.length ≤ c38 from by rw [hy38,hc38];exact Nat.sub_le_sub_right hroom38 _)
            clear hr38 hC38 hroom38 hi038 hsz38 hc38
            have KY38:=Aside0.mk hy38
            have KA38:=Aside0.mk hA38
            clear hy38 hA38
            replace q38:=eq_true q38
            refine start_ (n:=13) (S:=fun w' => w'.cell? ⟨gb344,0,none⟩ = some (.int .i64 a1_0) ∧ w'.cell? ⟨gb344,1,none⟩ = some (.int .i64 a1_1) ∧ w'.cell? ⟨gb344,2,none⟩ = some (.bool a1_2)) (ds := []) #[false,false,false,false,false,false,false,false,false,false,false,false,false] (by kernel_rfl) rfl rfl ⟨(blk_cell BK344.out 0).trans rfl,(blk_cell BK344.out 1).trans rfl,(blk_cell BK344.out 2).trans rfl⟩ (fun hHeld => ?_);refine with_tabW spec_AddReading.tab6 spec_AddReading.bits6 (fun HT_ HW_ => ?_)
            generalize w35.drew = w36 at BK344 HB HR356 HR369 hHeld ⊢
            refine pure_ (i:=1) (N:=some 29) (v:=?_) (a':=?_) #[false,true,false,false,false,false,false,false,false,false,false,false,false] rfl rfl (any_of HT_.out (by kernel_rfl)) (fun _ _ _ h => h) (Or.inl ⟨by rfl, ?_⟩) ?_ ?_
            rotate_left
            ·intro w'
             go_simp
             with_reducible rfl
            rotate_left
            ·simp only [Act.put,sA_,s0_,s1_,i64_w,i32_w]
             rfl
            refine pure_ (i:=2) (N:=some 30) (v:=?_) (a':=?_) #[false,true,true,false,false,false,false,false,false,false,false,false,false] rfl rfl (any_of HT_.out (by kernel_rfl)) (fun _ _ _ h => h) (Or.inl ⟨by rfl, ?_⟩) ?_ ?_
            rotate_left
            ·intro w'
             go_simp
             with_reducible rfl
            rotate_left
            ·simp only [Act.put,sA_,s0_,s1_,i64_w,i32_w]
             rfl
            refine pure_ (i:=3) (N:=some 31) (v:=?_) (a':=?_) #[false,true,true,true,false,false,false,false,false,false,false,false,false] rfl rfl (any_of HT_.out (by kernel_rfl)) (fun _ _ _ h => h) (Or.inl ⟨by rfl, ?_⟩) ?_ ?_
            rotate_left
            ·intro w'
             go_simp
             with_reducible rfl
            rotate_left
            ·simp only [Act.put,sA_,s0_,s1_,i64_w,i32_w]
             rfl
            refine pure_ (i:=8) (N:=some 36) (v:=?_) (a':=?_) #[false,true,true,true,false,false,false,false,true,false,false,false,false] rfl rfl (any_of HT_.out (by kernel_rfl)) (fun _ _ _ h => h) (Or.inl ⟨by rfl, ?_⟩) ?_ ?_
            rotate_left
            ·intro w'
             go_simp
             with_reducible rfl
            rotate_left
            ·simp only [Act.put,sA_,s0_,s1_,i64_w,i32_w]
             rfl
            refine pure_ (i:=9) (N:=some 37) (v:=?_) (a':=?_) #[false,true,true,true,false,false,false,false,true,true,false,false,false] rfl rfl (any_of HT_.out (by kernel_rfl)) (fun _ _ _ h => h) (Or.inl ⟨by rfl, ?_⟩) ?_ ?_
            rotate_left
            ·intro w'
             go_simp
             with_reducible rfl
            rotate_left
            ·simp only [Act.put,sA_,s0_,s1_,i64_w,i32_w]
             rfl
            refine pure_ (i:=10) (N:=some 38) (v:=?_) (a':=?_) #[false,true,true,true,false,false,false,false,true,true,true,false,false] rfl rfl (any_of HT_.out (by kernel_rfl)) (fun _ _ _ h => h) (Or.inl ⟨by rfl, ?_⟩) ?_ ?_
            rotate_left
            ·intro w'
             go_simp
             with_reducible rfl
            rotate_left
            ·simp only [Act.put,sA_,s0_,s1_,i64_w,i32_w]
             rfl
            refine take_ (i:=5) (N:=some 33) (v:=?_) (a':=?_) #[false,true,true,true,false,true,false,false,true,true,true,false,false] rfl rfl (take_ofW HT_.out HW_.out (by kernel_rfl)) (fun _ _ _ h => h) (Or.inl ⟨by rfl, ?_⟩) hHeld ?_ ?_
            rotate_left
            ·rintro w' ⟨s0,s1,s2⟩
             go_simp
             with_reducible rfl
            rotate_left
            ·simp only [Act.put,sA_,s0_,s1_,i64_w,i32_w]
             rfl
            refine join_ (σ:=Value × Value × Value) 3 #[true,true,true,true,true,true,true,false,true,true,true,false,false] (fun s_ => [(28,s_.1),(32,s_.2.1),(34,s_.2.2)]) (fun s_ w' => (w'.cell? ⟨gb344,0,none⟩ = some (.int .i64 a1_0) ∧ w'.cell? ⟨gb344,1,none⟩ = some (.int .i64 a1_1) ∧ w'.cell? ⟨gb344,2,none⟩ = some (.bool a1_2)) ∧ (Kd.R k41 41 w' w.heap.size (fun k_ => some k_ ≠ (s_.2.2 : Value).ownBlock ∧ k_ ≠ gb344) s_.2.1 y357) ∧ (Kd.R k41 41 w' w.heap.size (fun k_ => some k_ ≠ (s_.2.1 : Value).ownBlock ∧ k_ ≠ gb344) s_.2.2 y360) ∧ (w'.heap[gb344]? = some (.cells #[.int .i64 a1_0, .int .i64 a1_1, .bool a1_2] 41 (0,0))) ∧ (Below w.heap.size w w')) ?_ ?_
            rotate_left
            ·intro hCont
             refine two_ (i:=0) (j:=6) (Ni:=some 28) (Nj:=some 34) #[true,true,true,true,false,true,false,false,true,true,true,false,false] #[false,true,true,true,false,true,true,false,true,true,true,false,false] rfl rfl rfl rfl (two_of HT_.out (by kernel_rfl)) (by decide) (by decide) (fun K hK => ?_) (fun K hK => ?_)
             ·skip
              refine Kd.R_lit_step k41 _ 41 ?hg (N:=28) ?hd (xs:=([] : List (S41))) (inner := []) (ok:=fun _ => True) (okp:=fun _ => True) ?hr ?hp (fun _ hk => hk) trivial (Below.refl _ _) (Nat.le_refl _) (by simp) ?_;(case hd => rfl);(case hg => rfl);(case hr => (go_simp;done));(case hp => exact (Reps.none _ _))
              intro v351 w39 ho40 hb hg_ hnew_
              clear hg_ hnew_
              (rw [← Ny350.out] at ho40)
              have n0_:=Aside0.mk (Kd.R_lower (Kd.R_newB ho40 (g:=gb344) (o := .cells #[.int .i64 a1_0, .int .i64 a1_1, .bool a1_2] 41 (0,0)) (by exact BK344.out)) (below_size (by exact HB.out)))
              have n1_:=Aside0.mk (blk_below (g:=gb344) (o := .cells #[.int .i64 a1_0, .int .i64 a1_1, .bool a1_2] 41 (0,0)) (by exact BK344.out) hb)
              have n2_:=Aside0.mk (below_step (by exact HB.out) hb)
              clear BK344
              clear HB
              have HO352:=n0_
              have BK344:=n1_
              have HB:=n2_
              clear n0_ n1_ n2_
              clear hb ho40
              refine hK.out _ _ ⟨(blk_cell BK344.out 0).trans rfl,(blk_cell BK344.out 1).trans rfl,(blk_cell BK344.out 2).trans rfl⟩ (fun hHeld => ?_)
              clear hK K
              refine norm_ (a':=?_) ?_ ?_
              rotate_left
              ·show Act.put _ (some 28) _ = _
               simp only [Act.put,sA_,s0_,s1_,i64_w,i32_w]
               rfl
              refine two_ (i:=4) (j:=6) (Ni:=some 32) (Nj:=some 34) #[true,true,true,true,true,true,false,false,true,true,true,false,false] #[true,true,true,true,false,true,true,false,true,true,true,false,false] rfl rfl rfl rfl (two_of HT_.out (by kernel_rfl)) (by decide) (by decide) (fun K hK => ?_) (fun K hK => ?_)
              ·skip
               refine Kd.R_append_rows_step k41 (w0:=w) w.heap.size (by rfl) (.tmp 28) (.tmp 31) 30 41 (.agg #[(.int .i64 0),(.int .i64 0),(.bool false)]) 24 rfl Tryd.underlying30 info41 rfl (by decide) (by omega) v351 y350 y353 _ _ _ (fun k_ => k_ ≠ gb344) (fun _ => False) rfl rfl ?aO ?aR (fun _ _ h => h) (fun _ h => h.elim) ?aF ?aB ?aS ?aL ?_
               (case aR => repeat (exact (Kd.C_below HR356.out HB.out)))
               (case aB => exact (by exact HB.out))
               (case aF => exact (fun k_ hk => Kd.freshB (g:=gb344) (o := .cells #[.int .i64 a1_0, .int .i64 a1_1, .bool a1_2] 41 (0,0)) (by exact BK344.out) k_ hk))
               (case aO => exact (by exact Kd.R_mono HO352.out (fun _ hk => hk.2)))
               (case aS => exact (below_size (by exact HB.out)))
               (case aL => have:=LMc13.out;omega)
               intro v358 w41 ho hb hg hat
               rw [← Ny357.out] at ho
               have n0_:=Aside0.mk (blk_grown (g:=gb344) (o := .cells #[.int .i64 a1_0, .int .i64 a1_1, .bool a1_2] 41 (0,0)) (by exact BK344.out) hg (Kd.R_away HO352.out (fun _ hk => hk.2)))
               have n1_:=Aside0.mk (hb)
               have n2_:=Aside0.mk (ho)
               clear BK344
               clear HB
               clear HO352
               have BK344:=n0_
               have HB:=n1_
               have HO359:=n2_
               clear n0_ n1_ n2_
               clear ho hb hg hat
               refine hK.out _ _ ⟨(blk_cell BK344.out 0).trans rfl,(blk_cell BK344.out 1).trans rfl,(blk_cell BK344.out 2).trans rfl⟩ (fun hHeld => ?_)
               clear hK K
               refine norm_ (a':=?_) ?_ ?_
               rotate_left
               ·show Act.put _ (some 32) _ = _
                simp only [Act.put,sA_,s0_,s1_,i64_w,i32_w]
                rfl
               refine one_ (i:=6) (N:=some 34) #[true,true,true,true,true,true,true,false,true,true,true,false,false] rfl rfl (one_of HT_.out (by kernel_rfl)) (by decide) (fun K hK => ?_)
               refine Kd.R_lit_step k41 _ 41 ?hg (N:=34) ?hd (xs:=([(⟨a1_0,a1_1,a1_2⟩ : S41)] : List (S41))) (inner := [.int .i64 a1_0, .int .i64 a1_1, .bool a1_2]) (ok:=fun _ => True) (okp:=fun _ => True) ?hr ?hp (fun _ hk => hk) trivial (Below.refl _ _) (Nat.le_refl _) (by simp) ?_;(case hd => rfl);(case hg => rfl);(case hr => (go_simp;done));(case hp => exact (Reps.c3 (show Kd.M k41 _ _ _ (⟨a1_0,a1_1,a1_2⟩ : S41) [.int .i64 a1_0, .int .i64 a1_1, .bool a1_2] from (k41_mkM _ _ _ (⟨a1_0,a1_1,a1_2⟩ : S41) )) (Reps.none _ _)))
               intro v361 w42 ho43 hb hg_ hnew_
               clear hg_ hnew_
               (rw [← Ny360.out] at ho43)
               have n0_:=Aside0.mk (Kd.R_elder' (by exact HO359.out) (Kd.R_base ho43) hb)
               have n1_:=Aside0.mk (Kd.R_lower (Kd.R_newB (Kd.R_new' ho43 (Kd.R_lt (by exact HO359.out))) (g:=gb344) (o := .cells #[.int .i64 a1_0, .int .i64 a1_1, .bool a1_2] 41 (0,0)) (by exact BK344.out)) (below_size (by exact HB.out)))
               have n2_:=Aside0.mk (blk_below (g:=gb344) (o := .cells #[.int .i64 a1_0, .int .i64 a1_1, .bool a1_2] 41 (0,0)) (by exact BK344.out) hb)
               have n3_:=Aside0.mk (below_step (by exact HB.out) hb)
               clear HO359
               clear BK344
               clear HB
               have HO359:=n0_
               have HO362:=n1_
               have BK344:=n2_
               have HB:=n3_
               clear n0_ n1_ n2_ n3_
               clear hb ho43
               refine hK.out _ _ ⟨(blk_cell BK344.out 0).trans rfl,(blk_cell BK344.out 1).trans rfl,(blk_cell BK344.out 2).trans rfl⟩ (fun hHeld => ?_)
               clear hK K
               refine norm_ (a':=?_) ?_ ?_
               rotate_left
               ·show Act.put _ (some 34) _ = _
                simp only [Act.put,sA_,s0_,s1_,i64_w,i32_w]
                rfl
               exact norm_ (by simp only [putAll,Act.put,sA_,s0_,s1_]) (hCont (v351,v358,v361) _ ⟨hHeld,(by exact Kd.R_mono HO359.out (fun _ hk => ⟨hk.2,hk.1⟩)),(by exact Kd.R_mono HO362.out (fun _ hk => ⟨hk.1.2,hk.2⟩)),(by exact BK344.out),(by exact HB.out)⟩)
              ·skip
               refine Kd.R_lit_step k41 _ 41 ?hg (N:=34) ?hd (xs:=([(⟨a1_0,a1_1,a1_2⟩ : S41)] : List (S41))) (inner := [.int .i64 a1_0, .int .i64 a1_1, .bool a1_2]) (ok:=fun _ => True) (okp:=fun _ => True) ?hr ?hp (fun _ hk => hk) trivial (Below.refl _ _) (Nat.le_refl _) (by simp) ?_;(case hd => rfl);(case hg => rfl);(case hr => (go_simp;done));(case hp => exact (Reps.c3 (show Kd.M k41 _ _ _ (⟨a1_0,a1_1,a1_2⟩ : S41) [.int .i64 a1_0, .int .i64 a1_1, .bool a1_2] from (k41_mkM _ _ _ (⟨a1_0,a1_1,a1_2⟩ : S41) )) (Reps.none _ _)))
               intro v361 w41 ho42 hb hg_ hnew_
               clear hg_ hnew_
               (rw [← Ny360.out] at ho42)
               have n0_:=Aside0.mk (Kd.R_elder' (by exact HO352.out) (Kd.R_base ho42) hb)
               have n1_:=Aside0.mk (Kd.R_lower (Kd.R_newB (Kd.R_new' ho42 (Kd.R_lt (by exact HO352.out))) (g:=gb344) (o := .cells #[.int .i64 a1_0, .int .i64 a1_1, .bool a1_2] 41 (0,0)) (by exact BK344.out)) (below_size (by exact HB.out)))
               have n2_:=Aside0.mk (blk_below (g:=gb344) (o := .cells #[.int .i64 a1_0, .int .i64 a1_1, .bool a1_2] 41 (0,0)) (by exact BK344.out) hb)
               have n3_:=Aside0.mk (below_step (by exact HB.out) hb)
               clear HO352
               clear BK344
               clear HB
               have HO352:=n0_
               have HO362:=n1_
               have BK344:=n2_
               have HB:=n3_
               clear n0_ n1_ n2_ n3_
               clear hb ho42
               refine hK.out _ _ ⟨(blk_cell BK344.out 0).trans rfl,(blk_cell BK344.out 1).trans rfl,(blk_cell BK344.out 2).trans rfl⟩ (fun hHeld => ?_)
               clear hK K
               refine norm_ (a':=?_) ?_ ?_
               rotate_left
               ·show Act.put _ (some 34) _ = _
                simp only [Act.put,sA_,s0_,s1_,i64_w,i32_w]
                rfl
               refine one_ (i:=4) (N:=some 32) #[true,true,true,true,true,true,true,false,true,true,true,false,false] rfl rfl (one_of HT_.out (by kernel_rfl)) (by decide) (fun K hK => ?_)
               refine Kd.R_append_rows_step k41 (w0:=w) w.heap.size (by rfl) (.tmp 28) (.tmp 31) 30 41 (.agg #[(.int .i64 0),(.int .i64 0),(.bool false)]) 24 rfl Tryd.underlying30 info41 rfl (by decide) (by omega) v351 y350 y353 _ _ _ (fun k_ => some k_ ≠ (v361 : Value).ownBlock ∧ k_ ≠ gb344) (fun _ => False) rfl rfl ?aO ?aR (fun _ _ h => h) (fun _ h => h.elim) ?aF ?aB ?aS ?aL ?_
               (case aR => repeat (exact (Kd.C_below HR356.out HB.out)))
               (case aB => exact (by exact HB.out))
               (case aF => exact (fun k_ hk => ⟨Kd.fresh' (Kd.R_lt (by exact HO362.out)) k_ hk,Kd.freshB (g:=gb344) (o := .cells #[.int .i64 a1_0, .int .i64 a1_1, .bool a1_2] 41 (0,0)) (by exact BK344.out) k_ hk⟩))
               (case aO => exact (by exact Kd.R_mono HO352.out (fun _ hk => ⟨hk.2,hk.1.2⟩)))
               (case aS => exact (below_size (by exact HB.out)))
               (case aL => have:=LMc13.out;omega)
               intro v358 w43 ho hb hg hat
               rw [← Ny357.out] at ho
               have n0_:=Aside0.mk (blk_grown (g:=gb344) (o := .cells #[.int .i64 a1_0, .int .i64 a1_1, .bool a1_2] 41 (0,0)) (by exact BK344.out) hg (Kd.R_away HO352.out (fun _ hk => hk.1.2)))
               have n1_:=Aside0.mk (Kd.R_after (ok:=(fun k_ => k_ ≠ gb344)) (by exact Kd.R_mono HO362.out (fun _ hk => ⟨hk.2,hk.1.2⟩)) hg hat)
               have n2_:=Aside0.mk (hb)
               have n3_:=Aside0.mk (ho)
               clear BK344
               clear HO362
               clear HB
               clear HO352
               have BK344:=n0_
               have HO362:=n1_
               have HB:=n2_
               have HO359:=n3_
               clear n0_ n1_ n2_ n3_
               clear ho hb hg hat
               refine hK.out _ _ ⟨(blk_cell BK344.out 0).trans rfl,(blk_cell BK344.out 1).trans rfl,(blk_cell BK344.out 2).trans rfl⟩ (fun hHeld => ?_)
               clear hK K
               refine norm_ (a':=?_) ?_ ?_
               rotate_left
               ·show Act.put _ (some 32) _ = _
                simp only [Act.put,sA_,s0_,s1_,i64_w,i32_w]
                rfl
               exact norm_ (by simp only [putAll,Act.put,sA_,s0_,s1_]) (hCont (v351,v358,v361) _ ⟨hHeld,(by exact HO359.out),(by exact Kd.R_mono HO362.out (fun _ hk => ⟨hk.2,hk.1⟩)),(by exact BK344.out),(by exact HB.out)⟩)
             ·skip
              refine Kd.R_lit_step k41 _ 41 ?hg (N:=34) ?hd (xs:=([(⟨a1_0,a1_1,a1_2⟩ : S41)] : List (S41))) (inner := [.int .i64 a1_0, .int .i64 a1_1, .bool a1_2]) (ok:=fun _ => True) (okp:=fun _ => True) ?hr ?hp (fun _ hk => hk) trivial (Below.refl _ _) (Nat.le_refl _) (by simp) ?_;(case hd => rfl);(case hg => rfl);(case hr => (go_simp;done));(case hp => exact (Reps.c3 (show Kd.M k41 _ _ _ (⟨a1_0,a1_1,a1_2⟩ : S41) [.int .i64 a1_0, .int .i64 a1_1, .bool a1_2] from (k41_mkM _ _ _ (⟨a1_0,a1_1,a1_2⟩ : S41) )) (Reps.none _ _)))
              intro v361 w39 ho40 hb hg_ hnew_
              clear hg_ hnew_
              (rw [← Ny360.out] at ho40)
              have n0_:=Aside0.mk (Kd.R_lower (Kd.R_newB ho40 (g:=gb344) (o := .cells #[.int .i64 a1_0, .int .i64 a1_1, .bool a1_2] 41 (0,0)) (by exact BK344.out)) (below_size (by exact HB.out)))
              have n1_:=Aside0.mk (blk_below (g:=gb344) (o := .cells #[.int .i64 a1_0, .int .i64 a1_1, .bool a1_2] 41 (0,0)) (by exact BK344.out) hb)
              have n2_:=Aside0.mk (below_step (by exact HB.out) hb)
              clear BK344
              clear HB
              have HO362:=n0_
              have BK344:=n1_
              have HB:=n2_
              clear n0_ n1_ n2_
              clear hb ho40
              refine hK.out _ _ ⟨(blk_cell BK344.out 0).trans rfl,(blk_cell BK344.out 1).trans rfl,(blk_cell BK344.out 2).trans rfl⟩ (fun hHeld => ?_)
              clear hK K
              refine norm_ (a':=?_) ?_ ?_
              rotate_left
              ·show Act.put _ (some 34) _ = _
               simp only [Act.put,sA_,s0_,s1_,i64_w,i32_w]
               rfl
              refine one_ (i:=0) (N:=some 28) #[true,true,true,true,false,true,true,false,true,true,true,false,false] rfl rfl (one_of HT_.out (by kernel_rfl)) (by decide) (fun K hK => ?_)
              refine Kd.R_lit_step k41 _ 41 ?hg (N:=28) ?hd (xs:=([] : List (S41))) (inner := []) (ok:=fun _ => True) (okp:=fun _ => True) ?hr ?hp (fun _ hk => hk) trivial (Below.refl _ _) (Nat.le_refl _) (by simp) ?_;(case hd => rfl);(case hg => rfl);(case hr => (go_simp;done));(case hp => exact (Reps.none _ _))
              intro v351 w41 ho42 hb hg_ hnew_
              clear hg_ hnew_
              (rw [← Ny350.out] at ho42)
              have n0_:=Aside0.mk (Kd.R_elder' (by exact HO362.out) (Kd.R_base ho42) hb)
              have n1_:=Aside0.mk (Kd.R_lower (Kd.R_newB (Kd.R_new' ho42 (Kd.R_lt (by exact HO362.out))) (g:=gb344) (o := .cells #[.int .i64 a1_0, .int .i64 a1_1, .bool a1_2] 41 (0,0)) (by exact BK344.out)) (below_size (by exact HB.out)))
              have n2_:=Aside0.mk (blk_below (g:=gb344) (o := .cells #[.int .i64 a1_0, .int .i64 a1_1, .bool a1_2] 41 (0,0)) (by exact BK344.out) hb)
              have n3_:=Aside0.mk (below_step (by exact HB.out) hb)
              clear HO362
              clear BK344
              clear HB
              have HO362:=n0_
              have HO352:=n1_
              have BK344:=n2_
              have HB:=n3_
              clear n0_ n1_ n2_ n3_
              clear hb ho42
              refine hK.out _ _ ⟨(blk_cell BK344.out 0).trans rfl,(blk_cell BK344.out 1).trans rfl,(blk_cell BK344.out 2).trans rfl⟩ (fun hHeld => ?_)
              clear hK K
              refine norm_ (a':=?_) ?_ ?_
              rotate_left
              ·show Act.put _ (some 28) _ = _
               simp only [Act.put,sA_,s0_,s1_,i64_w,i32_w]
               rfl
              refine one_ (i:=4) (N:=some 32) #[true,true,true,true,true,true,true,false,true,true,true,false,false] rfl rfl (one_of HT_.out (by kernel_rfl)) (by decide) (fun K hK => ?_)
              refine Kd.R_append_rows_step k41 (w0:=w) w.heap.size (by rfl) (.tmp 28) (.tmp 31) 30 41 (.agg #[(.int .i64 0),(.int .i64 0),(.bool false)]) 24 rfl Tryd.underlying30 info41 rfl (by decide) (by omega) v351 y350 y353 _ _ _ (fun k_ => some k_ ≠ (v361 : Value).ownBlock ∧ k_ ≠ gb344) (fun _ => False) rfl rfl ?aO ?aR (fun _ _ h => h) (fun _ h => h.elim) ?aF ?aB ?aS ?aL ?_
              (case aR => repeat (exact (Kd.C_below HR356.out HB.out)))
              (case aB => exact (by exact HB.out))
              (case aF => exact (fun k_ hk => ⟨Kd.fresh' (Kd.R_lt (by exact HO362.out)) k_ hk,Kd.freshB (g:=gb344) (o := .cells #[.int .i64 a1_0, .int .i64 a1_1, .bool a1_2] 41 (0,0)) (by exact BK344.out) k_ hk⟩))
              (case aO => exact (by exact Kd.R_mono HO352.out (fun _ hk => ⟨hk.1.2,hk.2⟩)))
              (case aS => exact (below_size (by exact HB.out)))
              (case aL => have:=LMc13.out;omega)
              intro v358 w43 ho hb hg hat
              rw [← Ny357.out] at ho
              have n0_:=Aside0.mk (blk_grown (g:=gb344) (o := .cells #[.int .i64 a1_0, .int .i64 a1_1, .bool a1_2] 41 (0,0)) (by exact BK344.out) hg (Kd.R_away HO352.out (fun _ hk => hk.2)))
              have n1_:=Aside0.mk (Kd.R_after (ok:=(fun k_ => k_ ≠ gb344)) (by exact Kd.R_mono HO362.out (fun _ hk => ⟨hk.1.2,hk.2⟩)) hg hat)
              have n2_:=Aside0.mk (hb)
              have n3_:=Aside0.mk (ho)
              clear BK344
              clear HO362
              clear HB
              clear HO352
              have BK344:=n0_
              have HO362:=n1_
              have HB:=n2_
              have HO359:=n3_
              clear n0_ n1_ n2_ n3_
              clear ho hb hg hat
              refine hK.out _ _ ⟨(blk_cell BK344.out 0).trans rfl,(blk_cell BK344.out 1).trans rfl,(blk_cell BK344.out 2).trans rfl⟩ (fun hHeld => ?_)
              clear hK K
              refine norm_ (a':=?_) ?_ ?_
              rotate_left
              ·show Act.put _ (some 32) _ = _
               simp only [Act.put,sA_,s0_,s1_,i64_w,i32_w]
               rfl
              exact norm_ (by simp only [putAll,Act.put,sA_,s0_,s1_]) (hCont (v351,v358,v361) _ ⟨hHeld,(by exact HO359.out),(by exact Kd.R_mono HO362.out (fun _ hk => ⟨hk.2,hk.1⟩)),(by exact BK344.out),(by exact HB.out)⟩)
            rintro ⟨v351,v358,v361⟩ w44 ⟨hS_,h0_,h1_,h2_,h3_⟩
            have n0_ : Aside0 (Kd.R k41 41 w44 w.heap.size (fun k_ => some k_ ≠ (v361 : Value).ownBlock ∧ k_ ≠ gb344) v358 y357):=⟨h0_⟩
            have n1_ : Aside0 (Kd.R k41 41 w44 w.heap.size (fun k_ => some k_ ≠ (v358 : Value).ownBlock ∧ k_ ≠ gb344) v361 y360):=⟨h1_⟩
            have n2_ : Aside0 (w44.heap[gb344]? = some (.cells #[.int .i64 a1_0, .int .i64 a1_1, .bool a1_2] 41 (0,0))):=⟨h2_⟩
            have n3_ : Aside0 (Below w.heap.size w w44):=⟨h3_⟩
            clear BK344
            clear HB
            clear h0_ h1_ h2_ h3_
            have HO359:=n0_
            have HO362:=n1_
            have BK344:=n2_
            have HB:=n3_
            clear n0_ n1_ n2_ n3_
            have hHeld : w44.cell? ⟨gb344,0,none⟩ = some (.int .i64 a1_0) ∧ w44.cell? ⟨gb344,1,none⟩ = some (.int .i64 a1_1) ∧ w44.cell? ⟨gb344,2,none⟩ = some (.bool a1_2):=hS_
            obtain ⟨Ao46,co46,eo46⟩ := Kd.R_slice HO362.out
            (subst eo46)
            refine norm_ (a':=?_) ?_ ?_
            rotate_left
            ·simp only [putAll,Act.put,sA_,s0_,s1_]
             rfl
            refine one_ (i:=7) (N:=some 35) #[true,true,true,true,true,true,true,true,true,true,true,false,false] rfl rfl (one_of HT_.out (by kernel_rfl)) (by decide) (fun K hK => ?_)
            refine Kd.R_append_rows_step k41 (w0:=w) w.heap.size (by rfl) (.tmp 32) (.tmp 34) 30 41 (.agg #[(.int .i64 0),(.int .i64 0),(.bool false)]) 24 rfl Tryd.underlying30 info41 rfl (by decide) (by omega) v358 y357 y360 _ _ _ (fun k_ => some k_ ≠ (.slice Ao46 y360.length co46 : Value).ownBlock ∧ k_ ≠ gb344) (fun _ => False) rfl rfl ?aO ?aR (fun _ _ h => h) (fun _ h => h.elim) ?aF ?aB ?aS ?aL ?_
            (case aR => repeat (exact (Kd.R_reads' HO362.out).2.2))
            (case aB => exact (by exact HB.out))
            (case aF => exact (fun k_ hk => ⟨Kd.fresh' (Kd.R_lt (by exact HO362.out)) k_ hk,Kd.freshB (g:=gb344) (o := .cells #[.int .i64 a1_0, .int .i64 a1_1, .bool a1_2] 41 (0,0)) (by exact BK344.out) k_ hk⟩))
            (case aO => exact (by exact HO359.out))
            (case aS => exact (below_size (by exact HB.out)))
            (case aL => have:=LMc14.out;omega)
            intro v364 w45 ho hb hg hat
            rw [← Ny363.out] at ho
            have n0_:=Aside0.mk (blk_grown (g:=gb344) (o := .cells #[.int .i64 a1_0, .int .i64 a1_1, .bool a1_2] 41 (0,0)) (by exact BK344.out) hg (Kd.R_away HO359.out (fun _ hk => hk.2)))
            have n1_:=Aside0.mk (Kd.R_after (ok:=(fun k_ => k_ ≠ gb344)) (by exact Kd.R_mono HO362.out (fun _ hk => ⟨hk.2,hk.1⟩)) hg hat)
            have n2_:=Aside0.mk (hb)
            have n3_:=Aside0.mk (ho)
            clear BK344
            clear HO362
            clear HB
            clear HO359
            have BK344:=n0_
            have HO362:=n1_
            have HB:=n2_
            have HO365:=n3_
            clear n0_ n1_ n2_ n3_
            clear ho hb hg hat
            refine hK.out _ _ ⟨(blk_cell BK344.out 0).trans rfl,(blk_cell BK344.out 1).trans rfl,(blk_cell BK344.out 2).trans rfl⟩ (fun hHeld => ?_)
            clear hK K
            refine norm_ (a':=?_) ?_ ?_
            rotate_left
            ·show Act.put _ (some 35) _ = _
             simp only [Act.put,sA_,s0_,s1_,i64_w,i32_w]
             rfl
            refine one_ (i:=11) (N:=some 39) #[true,true,true,true,true,true,true,true,true,true,true,true,false] rfl rfl (one_of HT_.out (by kernel_rfl)) (by decide) (fun K hK => ?_)
            refine Kd.R_append_rows_step k41 (w0:=w) w.heap.size (by rfl) (.tmp 35) (.tmp 38) 30 41 (.agg #[(.int .i64 0),(.int .i64 0),(.bool false)]) 24 rfl Tryd.underlying30 info41 rfl (by decide) (by omega) v364 y363 y366 _ _ _ (fun k_ => some k_ ≠ (.slice Ao46 y360.length co46 : Value).ownBlock ∧ k_ ≠ gb344) (fun _ => False) rfl rfl ?aO ?aR (fun _ _ h => h) (fun _ h => h.elim) ?aF ?aB ?aS ?aL ?_
            (case aR => repeat (exact (Kd.C_below HR369.out HB.out)))
            (case aB => exact (by exact HB.out))
            (case aF => exact (fun k_ hk => ⟨Kd.fresh' (Kd.R_lt (by exact HO362.out)) k_ hk,Kd.freshB (g:=gb344) (o := .cells #[.int .i64 a1_0, .int .i64 a1_1, .bool a1_2] 41 (0,0)) (by exact BK344.out) k_ hk⟩))
            (case aO => exact (by exact HO365.out))
            (case aS => exact (below_size (by exact HB.out)))
            (case aL => have:=LMc17.out;omega)
            intro v371 w47 ho hb hg hat
            rw [← Ny370.out] at ho
            have n0_:=Aside0.mk (blk_grown (g:=gb344) (o := .cells #[.int .i64 a1_0, .int .i64 a1_1, .bool a1_2] 41 (0,0)) (by exact BK344.out) hg (Kd.R_away HO365.out (fun _ hk => hk.2)))
            have n1_:=Aside0.mk (Kd.R_after (ok:=(fun k_ => k_ ≠ gb344)) (by exact HO362.out) hg hat)
            have n2_:=Aside0.mk (hb)
            have n3_:=Aside0.mk (ho)
            clear BK344
            clear HO362
            clear HB
            clear HO365
            have BK344:=n0_
            have HO362:=n1_
            have HB:=n2_
            have HO372:=n3_
            clear n0_ n1_ n2_ n3_
            clear ho hb hg hat
            refine hK.out _ _ ⟨(blk_cell BK344.out 0).trans rfl,(blk_cell BK344.out 1).trans rfl,(blk_cell BK344.out 2).trans rfl⟩ (fun hHeld => ?_)
            clear hK K
            refine norm_ (a':=?_) ?_ ?_
            rotate_left
            ·show Act.put _ (some 39) _ = _
             simp only [Act.put,sA_,s0_,s1_,i64_w,i32_w]
             rfl
            refine pure_ (i:=12) (N:=some 7) (v:=?_) (a':=?_) #[true,true,true,true,true,true,true,true,true,true,true,true,true] rfl rfl (any_of HT_.out (by kernel_rfl)) (fun _ _ _ h => h) (Or.inl ⟨by rfl, ?_⟩) ?_ ?_
            rotate_left
            ·intro w'
             go_simp
             with_reducible rfl
            rotate_left
            ·simp only [Act.put,sA_,s0_,s1_,i64_w,i32_w]
             rfl
            refine done_ (done_of HT_.out (by kernel_rfl)) ?_
            obtain ⟨Ao48,co48,eo48⟩ := Kd.R_slice HO372.out
            subst eo48
            try go_wp2_with (first | ((with_reducible refine gate_callee (f:=39) rfl ?_);refine goesL_ (some 41) rfl rfl Tryd.func39 (by kernel_rfl) rfl #[.slice Ao48 y370.length co48] rfl (by (try simp only [List.map_toArray,List.map_cons,List.map_nil]);rfl) ?_;(with_reducible refine (spec_l21Good.calls k1 _ _ y370 false _ ?side1 ?side2 A18.out).mono ?_);(case side1 => repeat (exact (Kd.R_reads' HO372.out).2.2));(case side2 => exact (Kd.R_reads' HO372.out).2.1);rintro e w49 ⟨rfl,hb⟩;refine ⟨_,rfl, ?_⟩;have n0_:=Aside0.mk (Kd.R_below (by exact HO362.out) hb);have n1_:=Aside0.mk (Kd.R_below (by exact HO372.out) hb);have n2_:=Aside0.mk (blk_below (g:=gb344) (o := .cells #[.int .i64 a1_0, .int .i64 a1_1, .bool a1_2] 41 (0,0)) (by exact BK344.out) hb);have n3_:=Aside0.mk (below_step (by exact HB.out) hb);clear HO362;clear HO372;clear BK344;clear HB;have HO362:=n0_;have HO372:=n1_;have BK344:=n2_;have HB:=n3_;clear n0_ n1_ n2_ n3_;(try clear hb)) | ((with_reducible refine gate_dst (N:=43) rfl ?_);refine Kd.R_lit k41 _ 41 ?hg (N:=43) ?hd (xs:=([] : List (S41))) (inner := []) (ok:=fun _ => True) (okp:=fun _ => True) ?hr ?hp (fun _ hk => hk) trivial (Below.refl _ _) (Nat.le_refl _) (by simp) ?_;(case hd => rfl);(case hg => rfl);(case hr => (go_simp;done));(case hp => exact (Reps.none _ _));intro v375 w50 ho51 hb hg_ hnew_;clear hg_ hnew_;(rw [← Ny374.out] at ho51);have n0_:=Aside0.mk (Kd.R_elder' (by exact HO362.out) (Kd.R_base ho51) hb);have n1_:=Aside0.mk (Kd.R_elder' (by exact HO372.out) (Kd.R_base ho51) hb);have n2_:=Aside0.mk (Kd.R_lower (Kd.R_newB (Kd.R_new' (Kd.R_new' ho51 (Kd.R_lt (by exact HO362.out))) (Kd.R_lt (by exact HO372.out))) (g:=gb344) (o := .cells #[.int .i64 a1_0, .int .i64 a1_1, .bool a1_2] 41 (0,0)) (by exact BK344.out)) (below_size (by exact HB.out)));have n3_:=Aside0.mk (blk_below (g:=gb344) (o := .cells #[.int .i64 a1_0, .int .i64 a1_1, .bool a1_2] 41 (0,0)) (by exact BK344.out) hb);have n4_:=Aside0.mk (below_step (by exact HB.out) hb);clear HO362;clear HO372;clear BK344;clear HB;have HO362:=n0_;have HO372:=n1_;have HO376:=n2_;have BK344:=n3_;have HB:=n4_;clear n0_ n1_ n2_ n3_ n4_;clear hb ho51))
            go_ret2
            exact ⟨_,by rfl,by exact Kd.R_mono HO376.out (fun _ hk => trivial),by exact HB.out⟩
          ·rw [if_neg c17] at H
           exact absurd H (by simp)
         ·rw [if_neg c14] at H
          exact absurd H (by simp)
        ·rw [if_neg c13] at H
         exact absurd H (by simp)
       ·rw [if_neg c12] at H
        exact absurd H (by simp)
     ·rw [if_neg c8] at H
      exact absurd H (by simp)
    ·rw [if_neg c7] at H
     have c7b0 : decide (x6_1 < (l0.length : Int)) = false:=decide_eq_false c7
     clear c7
     obtain ⟨y377,hy377⟩ : ∃ y_ : List (S41),y_ = (([] : List (S41))):=⟨_,rfl⟩
     replace H : (if 0 ≤ x6_1 then (if x6_1 ≤ (l0.length : Int) then ((some (l0.take (x6_1 : Int).toNat : List (S41))).bind fun y380 => (if y377.length + y380.length < 5864062014805 then ((some (y377 ++ y380 : List (S41))).bind fun y384 => ((some (([(⟨a1_0,a1_1,a1_2⟩ : S41)] : List (S41)) : List (S41))).bind fun y387 => (if y384.length + y387.length < 5864062014805 then ((some (y384 ++ y387 : List (S41))).bind fun y390 => ((some (l0.drop (x6_1 : Int).toNat : List (S41))).bind fun y393 => (if y390.length + y393.length < 5864062014805 then ((some (y390 ++ y393 : List (S41))).bind fun y397 => ((spec_l21Good.f k1 y397).bind fun t400 => (if t400 = true then (some (y397,true)) else (some ((([] : List (S41))),false))))) else (none)))) else (none)))) else (none))) else (none)) else (none)) = some (r1,r2):=by (have H2_:=(Option.bind_some _ _).symm.trans H;rw [hy377];with_reducible exact H2_)
     have Ny377:=Aside0.mk hy377
     clear hy377
     by_cases c52 : 0 ≤ x6_1
     ·rw [if_pos c52] at H
      have c52b0:=eq_true c52
      have c52b1 : decide (0 ≤ x6_1) = true:=decide_eq_true c52
      clear c52
      by_cases c53 : x6_1 ≤ (l0.length : Int)
      ·rw [if_pos c53] at H
       have c53b0:=eq_true c53
       have c53b1 : decide (x6_1 ≤ (l0.length : Int)) = true:=decide_eq_true c53
       clear c53
       obtain ⟨y380,hy380⟩ : ∃ y_ : List (S41),y_ = (l0.take (x6_1 : Int).toNat):=⟨_,rfl⟩
       replace H : (if y377.length + y380.length < 5864062014805 then ((some (y377 ++ y380 : List (S41))).bind fun y384 => ((some (([(⟨a1_0,a1_1,a1_2⟩ : S41)] : List (S41)) : List (S41))).bind fun y387 => (if y384.length + y387.length < 5864062014805 then ((some (y384 ++ y387 : List (S41))).bind fun y390 => ((some (l0.drop (x6_1 : Int).toNat : List (S41))).bind fun y393 => (if y390.length + y393.length < 5864062014805 then ((some (y390 ++ y393 : List (S41))).bind fun y397 => ((spec_l21Good.f k1 y397).bind fun t400 => (if t400 = true then (some (y397,true)) else (some ((([] : List (S41))),false))))) else (none)))) else (none)))) else (none)) = some (r1,r2):=by (have H2_:=(Option.bind_some _ _).symm.trans H;rw [hy380];with_reducible exact H2_)
       have Ny380:=Aside0.mk hy380
       clear hy380
       by_cases c54 : y377.length + y380.length < 5864062014805
       ·rw [if_pos c54] at H
        have LMc54:=Aside0.mk c54
        clear c54
        obtain ⟨y384,hy384⟩ : ∃ y_ : List (S41),y_ = (y377 ++ y380):=⟨_,rfl⟩
        replace H : ((some (([(⟨a1_0,a1_1,a1_2⟩ : S41)] : List (S41)) : List (S41))).bind fun y387 => (if y384.length + y387.length < 5864062014805 then ((some (y384 ++ y387 : List (S41))).bind fun y390 => ((some (l0.drop (x6_1 : Int).toNat : List (S41))).bind fun y393 => (if y390.length + y393.length < 5864062014805 then ((some (y390 ++ y393 : List (S41))).bind fun y397 => ((spec_l21Good.f k1 y397).bind fun t400 => (if t400 = true then (some (y397,true)) else (some ((([] : List (S41))),false))))) else (none)))) else (none))) = some (r1,r2):=by (have H2_:=(Option.bind_some _ _).symm.trans H;rw [hy384];with_reducible exact H2_)
        have Ny384:=Aside0.mk hy384
        clear hy384
        obtain ⟨y387,hy387⟩ : ∃ y_ : List (S41),y_ = (([(⟨a1_0,a1_1,a1_2⟩ : S41)] : List (S41))):=⟨_,rfl⟩
        replace H : (if y384.length + y387.length < 5864062014805 then ((some (y384 ++ y387 : List (S41))).bind fun y390 => ((some (l0.drop (x6_1 : Int).toNat : List (S41))).bind fun y393 => (if y390.length + y393.length < 5864062014805 then ((some (y390 ++ y393 : List (S41))).bind fun y397 => ((spec_l21Good.f k1 y397).bind fun t400 => (if t400 = true then (some (y397,true)) else (some ((([] : List (S41))),false))))) else (none)))) else (none)) = some (r1,r2):=by (have H2_:=(Option.bind_some _ _).symm.trans H;rw [hy387];with_reducible exact H2_)
        have Ny387:=Aside0.mk hy387
        clear hy387
        by_cases c55 : y384.length + y387.length < 5864062014805
        ·rw [if_pos c55] at H
         have LMc55:=Aside0.mk c55
         clear c55
         obtain ⟨y390,hy390⟩ : ∃ y_ : List (S41),y_ = (y384 ++ y387):=⟨_,rfl⟩
         replace H : ((some (l0.drop (x6_1 : Int).toNat : List (S41))).bind fun y393 => (if y390.length + y393.length < 5864062014805 then ((some (y390 ++ y393 : List (S41))).bind fun y397 => ((spec_l21Good.f k1 y397).bind fun t400 => (if t400 = true then (some (y397,true)) else (some ((([] : List (S41))),false))))) else (none))) = some (r1,r2):=by (have H2_:=(Option.bind_some _ _).symm.trans H;rw [hy390];with_reducible exact H2_)
         have Ny390:=Aside0.mk hy390
         clear hy390
         have c56b0:=eq_true (of_decide_eq_true (by (with_reducible assumption)) : 0 ≤ x6_1)
         have c57b0:=eq_true (of_decide_eq_true (by (with_reducible assumption)) : x6_1 ≤ (l0.length : Int))
         obtain ⟨y393,hy393⟩ : ∃ y_ : List (S41),y_ = (l0.drop (x6_1 : Int).toNat):=⟨_,rfl⟩
         replace H : (if y390.length + y393.length < 5864062014805 then ((some (y390 ++ y393 : List (S41))).bind fun y397 => ((spec_l21Good.f k1 y397).bind fun t400 => (if t400 = true then (some (y397,true)) else (some ((([] : List (S41))),false))))) else (none)) = some (r1,r2):=by (have H2_:=(Option.bind_some _ _).symm.trans H;rw [hy393];with_reducible exact H2_)
         have Ny393:=Aside0.mk hy393
         clear hy393
         by_cases c58 : y390.length + y393.length < 5864062014805
         ·rw [if_pos c58] at H
          have LMc58:=Aside0.mk c58
          clear c58
          obtain ⟨y397,hy397⟩ : ∃ y_ : List (S41),y_ = (y390 ++ y393):=⟨_,rfl⟩
          replace H : ((spec_l21Good.f k1 y397).bind fun t400 => (if t400 = true then (some (y397,true)) else (some ((([] : List (S41))),false)))) = some (r1,r2):=by (have H2_:=(Option.bind_some _ _).symm.trans H;rw [hy397];with_reducible exact H2_)
          have Ny397:=Aside0.mk hy397
          clear hy397
          replace H:=Option.bind_eq_some_iff.mp H
          obtain ⟨t400,A590,H⟩ := H
          replace H : (if t400 = true then (some (y397,true)) else (some ((([] : List (S41))),false))) = some (r1,r2):=H
          have A59:=Aside0.mk A590
          clear A590
          by_cases c60 : t400 = true
          ·subst c60
           have H1 : (some (y397,true)) = some (r1,r2):=by rw [if_pos rfl] at H;exact H
           clear H
           have H:=H1
           clear H1
           simp only [Option.some.injEq,Prod.mk.injEq] at H
           obtain ⟨rfl,rfl⟩ := H
           try go_wp2
           have n0_:=Aside0.mk (blk_drew BK344.out)
           have n1_:=Aside0.mk (below_drew1 HB.out)
           clear BK344
           clear HB
           have BK344:=n0_
           have HB:=n1_
           clear n0_ n1_
           refine start_ (n:=14) (S:=fun w' => True) (ds := []) #[false,false,false,false,false,false,false,false,false,false,false,false,false,false] (by kernel_rfl) rfl rfl trivial (fun hHeld => ?_);refine with_tabW spec_AddReading.tab4 spec_AddReading.bits4 (fun HT_ HW_ => ?_)
           generalize wr.drew = w61 at BK344 HB hHeld ⊢
           refine pure_ (i:=0) (N:=some 12) (v:=?_) (a':=?_) #[true,false,false,false,false,false,false,false,false,false,false,false,false,false] rfl rfl (any_of HT_.out (by kernel_rfl)) (fun _ _ _ h => h) (Or.inl ⟨by rfl, ?_⟩) ?_ ?_
           rotate_left
           ·intro w'
            go_simp
            with_reducible rfl
           rotate_left
           ·simp only [Act.put,sA_,s0_,s1_,i64_w,i32_w]
            rfl
           refine pure_ (i:=1) (N:=some 13) (v:=?_) (a':=?_) #[true,true,false,false,false,false,false,false,false,false,false,false,false,false] rfl rfl (any_of HT_.out (by kernel_rfl)) (fun _ _ _ h => h) (Or.inl ⟨by rfl, ?_⟩) ?_ ?_
           rotate_left
           ·intro w'
            go_simp
            with_reducible rfl
           rotate_left
           ·simp only [Act.put,sA_,s0_,s1_,i64_w,i32_w]
            rfl
           refine pure_ (i:=2) (N:=some 14) (v:=?_) (a':=?_) #[true,true,true,false,false,false,false,false,false,false,false,false,false,false] rfl rfl (any_of HT_.out (by kernel_rfl)) (fun _ _ _ h => h) (Or.inl ⟨by rfl, ?_⟩) ?_ ?_
           rotate_left
           ·intro w'
            go_simp
            with_reducible rfl
           rotate_left
           ·simp only [Act.put,sA_,s0_,s1_,i64_w,i32_w]
            rfl
           refine pure_ (i:=3) (N:=some 15) (v:=?_) (a':=?_) #[true,true,true,true,false,false,false,false,false,false,false,false,false,false] rfl rfl (any_of HT_.out (by kernel_rfl)) (fun _ _ _ h => h) (Or.inl ⟨by rfl, ?_⟩) ?_ ?_
           rotate_left
           ·intro w'
            go_simp
            with_reducible rfl
           rotate_left
           ·simp only [Act.put,sA_,s0_,s1_,i64_w,i32_w]
            rfl
           refine pure_ (i:=4) (N:=some 16) (v:=?_) (a':=?_) #[true,true,true,true,true,false,false,false,false,false,false,false,false,false] rfl rfl (any_of HT_.out (by kernel_rfl)) (fun _ _ _ h => h) (Or.inl ⟨by rfl, ?_⟩) ?_ ?_
           rotate_left
           ·intro w'
            go_simp
            with_reducible rfl
           rotate_left
           ·simp only [Act.put,sA_,s0_,s1_,i64_w,i32_w]
            rfl
           refine pure_ (i:=5) (N:=some 17) (v:=undef) (a':=?_) #[true,true,true,true,true,true,false,false,false,false,false,false,false,false] rfl rfl (any_of HT_.out (by kernel_rfl)) (fun _ _ _ h => h) (Or.inr ⟨by rfl,rfl⟩) ?_ ?_
           rotate_left
           ·simp only [Act.put,sA_,s0_,s1_,i64_w,i32_w]
            rfl
           refine pure_ (i:=6) (N:=some 18) (v:=undef) (a':=?_) #[true,true,true,true,true,true,true,false,false,false,false,false,false,false] rfl rfl (any_of HT_.out (by kernel_rfl)) (fun _ _ _ h => h) (Or.inr ⟨by rfl,rfl⟩) ?_ ?_
           rotate_left
           ·simp only [Act.put,sA_,s0_,s1_,i64_w,i32_w]
            rfl
           refine pure_ (i:=7) (N:=some 19) (v:=undef) (a':=?_) #[true,true,true,true,true,true,true,true,false,false,false,false,false,false] rfl rfl (any_of HT_.out (by kernel_rfl)) (fun _ _ _ h => h) (Or.inr ⟨by rfl,rfl⟩) ?_ ?_
           rotate_left
           ·simp only [Act.put,sA_,s0_,s1_,i64_w,i32_w]
            rfl
           refine pure_ (i:=8) (N:=some 20) (v:=undef) (a':=?_) #[true,true,true,true,true,true,true,true,true,false,false,false,false,false] rfl rfl (any_of HT_.out (by kernel_rfl)) (fun _ _ _ h => h) (Or.inr ⟨by rfl,rfl⟩) ?_ ?_
           rotate_left
           ·simp only [Act.put,sA_,s0_,s1_,i64_w,i32_w]
            rfl
           refine pure_ (i:=9) (N:=some 21) (v:=undef) (a':=?_) #[true,true,true,true,true,true,true,true,true,true,false,false,false,false] rfl rfl (any_of HT_.out (by kernel_rfl)) (fun _ _ _ h => h) (Or.inr ⟨by rfl,rfl⟩) ?_ ?_
           rotate_left
           ·simp only [Act.put,sA_,s0_,s1_,i64_w,i32_w]
            rfl
           refine pure_ (i:=10) (N:=some 22) (v:=undef) (a':=?_) #[true,true,true,true,true,true,true,true,true,true,true,false,false,false] rfl rfl (any_of HT_.out (by kernel_rfl)) (fun _ _ _ h => h) (Or.inr ⟨by rfl,rfl⟩) ?_ ?_
           rotate_left
           ·simp only [Act.put,sA_,s0_,s1_,i64_w,i32_w]
            rfl
           refine pure_ (i:=11) (N:=some 23) (v:=undef) (a':=?_) #[true,true,true,true,true,true,true,true,true,true,true,true,false,false] rfl rfl (any_of HT_.out (by kernel_rfl)) (fun _ _ _ h => h) (Or.inr ⟨by rfl,rfl⟩) ?_ ?_
           rotate_left
           ·simp only [Act.put,sA_,s0_,s1_,i64_w,i32_w]
            rfl
           refine pure_ (i:=12) (N:=some 24) (v:=undef) (a':=?_) #[true,true,true,true,true,true,true,true,true,true,true,true,true,false] rfl rfl (any_of HT_.out (by kernel_rfl)) (fun _ _ _ h => h) (Or.inr ⟨by rfl,rfl⟩) ?_ ?_
           rotate_left
           ·simp only [Act.put,sA_,s0_,s1_,i64_w,i32_w]
            rfl
           refine pure_ (i:=13) (N:=some 25) (v:=?_) (a':=?_) #[true,true,true,true,true,true,true,true,true,true,true,true,true,true] rfl rfl (any_of HT_.out (by kernel_rfl)) (fun _ _ _ h => h) (Or.inl ⟨by rfl, ?_⟩) ?_ ?_
           rotate_left
           ·intro w'
            go_simp
            with_reducible rfl
           rotate_left
           ·simp only [Act.put,sA_,s0_,s1_,i64_w,i32_w]
            rfl
           refine done_ (done_of HT_.out (by kernel_rfl)) ?_
           try go_wp2
           have n0_:=Aside0.mk (blk_drew BK344.out)
           have n1_:=Aside0.mk (below_drew1 HB.out)
           clear BK344
           clear HB
           have BK344:=n0_
           have HB:=n1_
           clear n0_ n1_
           have q63 : (x6_1 : Int) ≤ ((l0.length : Int) : Int):=of_decide_eq_true (by (with_reducible assumption))
           obtain ⟨i063,hi063,_,hsz63,_⟩ := info_parts info41
           have hroom63 : l0.length ≤ c0:=HC0.out
           have hC63 : Kd.C k41 _ A0 l0.length l0:=HR0.out
           have hcut63:=cut_to (P:=Tryd.prog) 30 41 .i64 Tryd.underlying30 hi063 A0 l0.length c0 x6_1 (of_decide_eq_true (by (with_reducible assumption))) q63 hroom63
           have hr63:=Kd.C_take (m:=(x6_1 : Int).toNat) hC63 (by omega)
           have hy63 : y380.length = (x6_1 : Int).toNat:=(by rw [Ny380.out,List.length_take];omega)
           rw [← Ny380.out] at hr63
           rw [← hy63] at hcut63
           have HR383:=Aside0.mk hr63
           have HC383:=Aside0.mk (show y380.length ≤ c0 from by omega)
           clear hr63 hC63 hroom63 hi063 hsz63
           have KY63:=Aside0.mk hy63
           clear hy63
           replace q63:=eq_true q63
           have q64 : (x6_1 : Int) ≤ ((l0.length : Int) : Int):=of_decide_eq_true (by (with_reducible assumption))
           obtain ⟨i064,hi064,_,hsz64,_⟩ := info_parts info41
           have hroom64 : l0.length ≤ c0:=HC0.out
           have hC64 : Kd.C k41 _ A0 l0.length l0:=HR0.out
           have q064 : (0 : Int) ≤ (x6_1 : Int):=of_decide_eq_true (by (with_reducible assumption))
           have hcut64:=cut_from (P:=Tryd.prog) 30 41 .i64 Tryd.underlying30 hi064 3 hsz64 A0 l0.length c0 x6_1 q064 q64
           have hr64:=Kd.C_drop (m:=(x6_1 : Int).toNat) (c:=c0) hC64 (by omega) hroom64
           obtain ⟨A64,hA64⟩ : ∃ A1,A1 = (if c0 = (x6_1 : Int).toNat then A0 else (A0 : Option Addr).map (·.add ((x6_1 : Int).toNat * 3))):=⟨_,rfl⟩
           obtain ⟨c64,hc64⟩ : ∃ c1,c1 = c0 - (x6_1 : Int).toNat:=⟨_,rfl⟩
           have hy64 : y393.length = l0.length - (x6_1 : Int).toNat:=(by rw [Ny393.out,List.length_drop] <;> omega)
           rw [show (l0).drop (x6_1 : Int).toNat = y393 from Ny393.out.symm] at hr64
           replace hr64 : Kd.C k41 _ A64 y393.length y393:=(by rw [hA64];exact hr64)
           rw [← hy64,← hA64,← hc64] at hcut64
           have HR396:=Aside0.mk hr64
           have HC396:=Aside0.mk (show y393.length ≤ c64 from by rw [hy64,hc64];exact Nat.sub_le_sub_right hroom64 _)
           clear hr64 hC64 hroom64 hi064 hsz64 hc64
           have KY64:=Aside0.mk hy64
           have KA64:=Aside0.mk hA64
           clear hy64 hA64
           replace q64:=eq_true q64
           refine start_ (n:=13) (S:=fun w' => w'.cell? ⟨gb344,0,none⟩ = some (.int .i64 a1_0) ∧ w'.cell? ⟨gb344,1,none⟩ = some (.int .i64 a1_1) ∧ w'.cell? ⟨gb344,2,none⟩ = some (.bool a1_2)) (ds := []) #[false,false,false,false,false,false,false,false,false,false,false,false,false] (by kernel_rfl) rfl rfl ⟨(blk_cell BK344.out 0).trans rfl,(blk_cell BK344.out 1).trans rfl,(blk_cell BK344.out 2).trans rfl⟩ (fun hHeld => ?_);refine with_tabW spec_AddReading.tab6 spec_AddReading.bits6 (fun HT_ HW_ => ?_)
           generalize w61.drew = w62 at BK344 HB HR383 HR396 hHeld ⊢
           refine pure_ (i:=1) (N:=some 29) (v:=?_) (a':=?_) #[false,true,false,false,false,false,false,false,false,false,false,false,false] rfl rfl (any_of HT_.out (by kernel_rfl)) (fun _ _ _ h => h) (Or.inl ⟨by rfl, ?_⟩) ?_ ?_
           rotate_left
           ·intro w'
            go_simp
            with_reducible rfl
           rotate_left
           ·simp only [Act.put,sA_,s0_,s1_,i64_w,i32_w]
            rfl
           refine pure_ (i:=2) (N:=some 30) (v:=?_) (a':=?_) #[false,true,true,false,false,false,false,false,false,false,false,false,false] rfl rfl (any_of HT_.out (by kernel_rfl)) (fun _ _ _ h => h) (Or.inl ⟨by rfl, ?_⟩) ?_ ?_
           rotate_left
           ·intro w'
            go_simp
            with_reducible rfl
           rotate_left
           ·simp only [Act.put,sA_,s0_,s1_,i64_w,i32_w]
            rfl
           refine pure_ (i:=3) (N:=some 31) (v:=?_) (a':=?_) #[false,true,true,true,false,false,false,false,false,false,false,false,false] rfl rfl (any_of HT_.out (by kernel_rfl)) (fun _ _ _ h => h) (Or.inl ⟨by rfl, ?_⟩) ?_ ?_
           rotate_left
           ·intro w'
            go_simp
            with_reducible rfl
           rotate_left
           ·simp only [Act.put,sA_,s0_,s1_,i64_w,i32_w]
            rfl
           refine pure_ (i:=8) (N:=some 36) (v:=?_) (a':=?_) #[false,true,true,true,false,false,false,false,true,false,false,false,false] rfl rfl (any_of HT_.out (by kernel_rfl)) (fun _ _ _ h => h) (Or.inl ⟨by rfl, ?_⟩) ?_ ?_
           rotate_left
           ·intro w'
            go_simp
            with_reducible rfl
           rotate_left
           ·simp only [Act.put,sA_,s0_,s1_,i64_w,i32_w]
            rfl
           refine pure_ (i:=9) (N:=some 37) (v:=?_) (a':=?_) #[false,true,true,true,false,false,false,false,true,true,false,false,false] rfl rfl (any_of HT_.out (by kernel_rfl)) (fun _ _ _ h => h) (Or.inl ⟨by rfl, ?_⟩) ?_ ?_
           rotate_left
           ·intro w'
            go_simp
            with_reducible rfl
           rotate_left
           ·simp only [Act.put,sA_,s0_,s1_,i64_w,i32_w]
            rfl
           refine pure_ (i:=10) (N:=some 38) (v:=?_) (a':=?_) #[false,true,true,true,false,false,false,false,true,true,true,false,false] rfl rfl (any_of HT_.out (by kernel_rfl)) (fun _ _ _ h => h) (Or.inl ⟨by rfl, ?_⟩) ?_ ?_
           rotate_left
           ·intro w'
            go_simp
            with_reducible rfl
           rotate_left
           ·simp only [Act.put,sA_,s0_,s1_,i64_w,i32_w]
            rfl
           refine take_ (i:=5) (N:=some 33) (v:=?_) (a':=?_) #[false,true,true,true,false,true,false,false,true,true,true,false,false] rfl rfl (take_ofW HT_.out HW_.out (by kernel_rfl)) (fun _ _ _ h => h) (Or.inl ⟨by rfl, ?_⟩) hHeld ?_ ?_
           rotate_left
           ·rintro w' ⟨s0,s1,s2⟩
            go_simp
            with_reducible rfl
           rotate_left
           ·simp only [Act.put,sA_,s0_,s1_,i64_w,i32_w]
            rfl
           refine join_ (σ:=Value × Value × Value) 3 #[true,true,true,true,true,true,true,false,true,true,true,false,false] (fun s_ => [(28,s_.1),(32,s_.2.1),(34,s_.2.2)]) (fun s_ w' => (w'.cell? ⟨gb344,0,none⟩ = some (.int .i64 a1_0) ∧ w'.cell? ⟨gb344,1,none⟩ = some (.int .i64 a1_1) ∧ w'.cell? ⟨gb344,2,none⟩ = some (.bool a1_2)) ∧ (Kd.R k41 41 w' w.heap.size (fun k_ => some k_ ≠ (s_.2.2 : Value).ownBlock ∧ k_ ≠ gb344) s_.2.1 y384) ∧ (Kd.R k41 41 w' w.heap.size (fun k_ => some k_ ≠ (s_.2.1 : Value).ownBlock ∧ k_ ≠ gb344) s_.2.2 y387) ∧ (w'.heap[gb344]? = some (.cells #[.int .i64 a1_0, .int .i64 a1_1, .bool a1_2] 41 (0,0))) ∧ (Below w.heap.size w w')) ?_ ?_
           rotate_left
           ·intro hCont
            refine two_ (i:=0) (j:=6) (Ni:=some 28) (Nj:=some 34) #[true,true,true,true,false,true,false,false,true,true,true,false,false] #[false,true,true,true,false,true,true,false,true,true,true,false,false] rfl rfl rfl rfl (two_of HT_.out (by kernel_rfl)) (by decide) (by decide) (fun K hK => ?_) (fun K hK => ?_)
            ·skip
             refine Kd.R_lit_step k41 _ 41 ?hg (N:=28) ?hd (xs:=([] : List (S41))) (inner := []) (ok:=fun _ => True) (okp:=fun _ => True) ?hr ?hp (fun _ hk => hk) trivial (Below.refl _ _) (Nat.le_refl _) (by simp) ?_;(case hd => rfl);(case hg => rfl);(case hr => (go_simp;done));(case hp => exact (Reps.none _ _))
             intro v378 w65 ho66 hb hg_ hnew_
             clear hg_ hnew_
             (rw [← Ny377.out] at ho66)
             have n0_:=Aside0.mk (Kd.R_lower (Kd.R_newB ho66 (g:=gb344) (o := .cells #[.int .i64 a1_0, .int .i64 a1_1, .bool a1_2] 41 (0,0)) (by exact BK344.out)) (below_size (by exact HB.out)))
             have n1_:=Aside0.mk (blk_below (g:=gb344) (o := .cells #[.int .i64 a1_0, .int .i64 a1_1, .bool a1_2] 41 (0,0)) (by exact BK344.out) hb)
             have n2_:=Aside0.mk (below_step (by exact HB.out) hb)
             clear BK344
             clear HB
             have HO379:=n0_
             have BK344:=n1_
             have HB:=n2_
             clear n0_ n1_ n2_
             clear hb ho66
             refine hK.out _ _ ⟨(blk_cell BK344.out 0).trans rfl,(blk_cell BK344.out 1).trans rfl,(blk_cell BK344.out 2).trans rfl⟩ (fun hHeld => ?_)
             clear hK K
             refine norm_ (a':=?_) ?_ ?_
             rotate_left
             ·show Act.put _ (some 28) _ = _
              simp only [Act.put,sA_,s0_,s1_,i64_w,i32_w]
              rfl
             refine two_ (i:=4) (j:=6) (Ni:=some 32) (Nj:=some 34) #[true,true,true,true,true,true,false,false,true,true,true,false,false] #[true,true,true,true,false,true,true,false,true,true,true,false,false] rfl rfl rfl rfl (two_of HT_.out (by kernel_rfl)) (by decide) (by decide) (fun K hK => ?_) (fun K hK => ?_)
             ·skip
              refine Kd.R_append_rows_step k41 (w0:=w) w.heap.size (by rfl) (.tmp 28) (.tmp 31) 30 41 (.agg #[(.int .i64 0),(.int .i64 0),(.bool false)]) 24 rfl Tryd.underlying30 info41 rfl (by decide) (by omega) v378 y377 y380 _ _ _ (fun k_ => k_ ≠ gb344) (fun _ => False) rfl rfl ?aO ?aR (fun _ _ h => h) (fun _ h => h.elim) ?aF ?aB ?aS ?aL ?_
              (case aR => repeat (exact (Kd.C_below HR383.out HB.out)))
              (case aB => exact (by exact HB.out))
              (case aF => exact (fun k_ hk => Kd.freshB (g:=gb344) (o := .cells #[.int .i64 a1_0, .int .i64 a1_1, .bool a1_2] 41 (0,0)) (by exact BK344.out) k_ hk))
              (case aO => exact (by exact Kd.R_mono HO379.out (fun _ hk => hk.2)))
              (case aS => exact (below_size (by exact HB.out)))
              (case aL => have:=LMc54.out;omega)
              intro v385 w67 ho hb hg hat
              rw [← Ny384.out] at ho
              have n0_:=Aside0.mk (blk_grown (g:=gb344) (o := .cells #[.int .i64 a1_0, .int .i64 a1_1, .bool a1_2] 41 (0,0)) (by exact BK344.out) hg (Kd.R_away HO379.out (fun _ hk => hk.2)))
              have n1_:=Aside0.mk (hb)
              have n2_:=Aside0.mk (ho)
              clear BK344
              clear HB
              clear HO379
              have BK344:=n0_
              have HB:=n1_
              have HO386:=n2_
              clear n0_ n1_ n2_
              clear ho hb hg hat
              refine hK.out _ _ ⟨(blk_cell BK344.out 0).trans rfl,(blk_cell BK344.out 1).trans rfl,(blk_cell BK344.out 2).trans rfl⟩ (fun hHeld => ?_)
              clear hK K
              refine norm_ (a':=?_) ?_ ?_
              rotate_left
              ·show Act.put _ (some 32) _ = _
               simp only [Act.put,sA_,s0_,s1_,i64_w,i32_w]
               rfl
              refine one_ (i:=6) (N:=some 34) #[true,true,true,true,true,true,true,false,true,true,true,false,false] rfl rfl (one_of HT_.out (by kernel_rfl)) (by decide) (fun K hK => ?_)
              refine Kd.R_lit_step k41 _ 41 ?hg (N:=34) ?hd (xs:=([(⟨a1_0,a1_1,a1_2⟩ : S41)] : List (S41))) (inner := [.int .i64 a1_0, .int .i64 a1_1, .bool a1_2]) (ok:=fun _ => True) (okp:=fun _ => True) ?hr ?hp (fun _ hk => hk) trivial (Below.refl _ _) (Nat.le_refl _) (by simp) ?_;(case hd => rfl);(case hg => rfl);(case hr => (go_simp;done));(case hp => exact (Reps.c3 (show Kd.M k41 _ _ _ (⟨a1_0,a1_1,a1_2⟩ : S41) [.int .i64 a1_0, .int .i64 a1_1, .bool a1_2] from (k41_mkM _ _ _ (⟨a1_0,a1_1,a1_2⟩ : S41) )) (Reps.none _ _)))
              intro v388 w68 ho69 hb hg_ hnew_
              clear hg_ hnew_
              (rw [← Ny387.out] at ho69)
              have n0_:=Aside0.mk (Kd.R_elder' (by exact HO386.out) (Kd.R_base ho69) hb)
              have n1_:=Aside0.mk (Kd.R_lower (Kd.R_newB (Kd.R_new' ho69 (Kd.R_lt (by exact HO386.out))) (g:=gb344) (o := .cells #[.int .i64 a1_0, .int .i64 a1_1, .bool a1_2] 41 (0,0)) (by exact BK344.out)) (below_size (by exact HB.out)))
              have n2_:=Aside0.mk (blk_below (g:=gb344) (o := .cells #[.int .i64 a1_0, .int .i64 a1_1, .bool a1_2] 41 (0,0)) (by exact BK344.out) hb)
              have n3_:=Aside0.mk (below_step (by exact HB.out) hb)
              clear HO386
              clear BK344
              clear HB
              have HO386:=n0_
              have HO389:=n1_
              have BK344:=n2_
              have HB:=n3_
              clear n0_ n1_ n2_ n3_
              clear hb ho69
              refine hK.out _ _ ⟨(blk_cell BK344.out 0).trans rfl,(blk_cell BK344.out 1).trans rfl,(blk_cell BK344.out 2).trans rfl⟩ (fun hHeld => ?_)
              clear hK K
              refine norm_ (a':=?_) ?_ ?_
              rotate_left
              ·show Act.put _ (some 34) _ = _
               simp only [Act.put,sA_,s0_,s1_,i64_w,i32_w]
               rfl
              exact norm_ (by simp only [putAll,Act.put,sA_,s0_,s1_]) (hCont (v378,v385,v388) _ ⟨hHeld,(by exact Kd.R_mono HO386.out (fun _ hk => ⟨hk.2,hk.1⟩)),(by exact Kd.R_mono HO389.out (fun _ hk => ⟨hk.1.2,hk.2⟩)),(by exact BK344.out),(by exact HB.out)⟩)
             ·skip
              refine Kd.R_lit_step k41 _ 41 ?hg (N:=34) ?hd (xs:=([(⟨a1_0,a1_1,a1_2⟩ : S41)] : List (S41))) (inner := [.int .i64 a1_0, .int .i64 a1_1, .bool a1_2]) (ok:=fun _ => True) (okp:=fun _ => True) ?hr ?hp (fun _ hk => hk) trivial (Below.refl _ _) (Nat.le_refl _) (by simp) ?_;(case hd => rfl);(case hg => rfl);(case hr => (go_simp;done));(case hp => exact (Reps.c3 (show Kd.M k41 _ _ _ (⟨a1_0,a1_1,a1_2⟩ : S41) [.int .i64 a1_0, .int .i64 a1_1, .bool a1_2] from (k41_mkM _ _ _ (⟨a1_0,a1_1,a1_2⟩ : S41) )) (Reps.none _ _)))
              intro v388 w67 ho68 hb hg_ hnew_
              clear hg_ hnew_
              (rw [← Ny387.out] at ho68)
              have n0_:=Aside0.mk (Kd.R_elder' (by exact HO379.out) (Kd.R_base ho68) hb)
              have n1_:=Aside0.mk (Kd.R_lower (Kd.R_newB (Kd.R_new' ho68 (Kd.R_lt (by exact HO379.out))) (g:=gb344) (o := .cells #[.int .i64 a1_0, .int .i64 a1_1, .bool a1_2] 41 (0,0)) (by exact BK344.out)) (below_size (by exact HB.out)))
              have n2_:=Aside0.mk (blk_below (g:=gb344) (o := .cells #[.int .i64 a1_0, .int .i64 a1_1, .bool a1_2] 41 (0,0)) (by exact BK344.out) hb)
              have n3_:=Aside0.mk (below_step (by exact HB.out) hb)
              clear HO379
              clear BK344
              clear HB
              have HO379:=n0_
              have HO389:=n1_
              have BK344:=n2_
              have HB:=n3_
              clear n0_ n1_ n2_ n3_
              clear hb ho68
              refine hK.out _ _ ⟨(blk_cell BK344.out 0).trans rfl,(blk_cell BK344.out 1).trans rfl,(blk_cell BK344.out 2).trans rfl⟩ (fun hHeld => ?_)
              clear hK K
              refine norm_ (a':=?_) ?_ ?_
              rotate_left
              ·show Act.put _ (some 34) _ = _
               simp only [Act.put,sA_,s0_,s1_,i64_w,i32_w]
               rfl
              refine one_ (i:=4) (N:=some 32) #[true,true,true,true,true,true,true,false,true,true,true,false,false] rfl rfl (one_of HT_.out (by kernel_rfl)) (by decide) (fun K hK => ?_)
              refine Kd.R_append_rows_step k41 (w0:=w) w.heap.size (by rfl) (.tmp 28) (.tmp 31) 30 41 (.agg #[(.int .i64 0),(.int .i64 0),(.bool false)]) 24 rfl Tryd.underlying30 info41 rfl (by decide) (by omega) v378 y377 y380 _ _ _ (fun k_ => some k_ ≠ (v388 : Value).ownBlock ∧ k_ ≠ gb344) (fun _ => False) rfl rfl ?aO ?aR (fun _ _ h => h) (fun _ h => h.elim) ?aF ?aB ?aS ?aL ?_
              (case aR => repeat (exact (Kd.C_below HR383.out HB.out)))
              (case aB => exact (by exact HB.out))
              (case aF => exact (fun k_ hk => ⟨Kd.fresh' (Kd.R_lt (by exact HO389.out)) k_ hk,Kd.freshB (g:=gb344) (o := .cells #[.int .i64 a1_0, .int .i64 a1_1, .bool a1_2] 41 (0,0)) (by exact BK344.out) k_ hk⟩))
              (case aO => exact (by exact Kd.R_mono HO379.out (fun _ hk => ⟨hk.2,hk.1.2⟩)))
              (case aS => exact (below_size (by exact HB.out)))
              (case aL => have:=LMc54.out;omega)
              intro v385 w69 ho hb hg hat
              rw [← Ny384.out] at ho
              have n0_:=Aside0.mk (blk_grown (g:=gb344) (o := .cells #[.int .i64 a1_0, .int .i64 a1_1, .bool a1_2] 41 (0,0)) (by exact BK344.out) hg (Kd.R_away HO379.out (fun _ hk => hk.1.2)))
              have n1_:=Aside0.mk (Kd.R_after (ok:=(fun k_ => k_ ≠ gb344)) (by exact Kd.R_mono HO389.out (fun _ hk => ⟨hk.2,hk.1.2⟩)) hg hat)
              have n2_:=Aside0.mk (hb)
              have n3_:=Aside0.mk (ho)
              clear BK344
              clear HO389
              clear HB
              clear HO379
              have BK344:=n0_
              have HO389:=n1_
              have HB:=n2_
              have HO386:=n3_
              clear n0_ n1_ n2_ n3_
              clear ho hb hg hat
              refine hK.out _ _ ⟨(blk_cell BK344.out 0).trans rfl,(blk_cell BK344.out 1).trans rfl,(blk_cell BK344.out 2).trans rfl⟩ (fun hHeld => ?_)
              clear hK K
              refine norm_ (a':=?_) ?_ ?_
              rotate_left
              ·show Act.put _ (some 32) _ = _
               simp only [Act.put,sA_,s0_,s1_,i64_w,i32_w]
               rfl
              exact norm_ (by simp only [putAll,Act.put,sA_,s0_,s1_]) (hCont (v378,v385,v388) _ ⟨hHeld,(by exact HO386.out),(by exact Kd.R_mono HO389.out (fun _ hk => ⟨hk.2,hk.1⟩)),(by exact BK344.out),(by exact HB.out)⟩)
            ·skip
             refine Kd.R_lit_step k41 _ 41 ?hg (N:=34) ?hd (xs:=([(⟨a1_0,a1_1,a1_2⟩ : S41)] : List (S41))) (inner := [.int .i64 a1_0, .int .i64 a1_1, .bool a1_2]) (ok:=fun _ => True) (okp:=fun _ => True) ?hr ?hp (fun _ hk => hk) trivial (Below.refl _ _) (Nat.le_refl _) (by simp) ?_;(case hd => rfl);(case hg => rfl);(case hr => (go_simp;done));(case hp => exact (Reps.c3 (show Kd.M k41 _ _ _ (⟨a1_0,a1_1,a1_2⟩ : S41) [.int .i64 a1_0, .int .i64 a1_1, .bool a1_2] from (k41_mkM _ _ _ (⟨a1_0,a1_1,a1_2⟩ : S41) )) (Reps.none _ _)))
             intro v388 w65 ho66 hb hg_ hnew_
             clear hg_ hnew_
             (rw [← Ny387.out] at ho66)
             have n0_:=Aside0.mk (Kd.R_lower (Kd.R_newB ho66 (g:=gb344) (o := .cells #[.int .i64 a1_0, .int .i64 a1_1, .bool a1_2] 41 (0,0)) (by exact BK344.out)) (below_size (by exact HB.out)))
             have n1_:=Aside0.mk (blk_below (g:=gb344) (o := .cells #[.int .i64 a1_0, .int .i64 a1_1, .bool a1_2] 41 (0,0)) (by exact BK344.out) hb)
             have n2_:=Aside0.mk (below_step (by exact HB.out) hb)
             clear BK344
             clear HB
             have HO389:=n0_
             have BK344:=n1_
             have HB:=n2_
             clear n0_ n1_ n2_
             clear hb ho66
             refine hK.out _ _ ⟨(blk_cell BK344.out 0).trans rfl,(blk_cell BK344.out 1).trans rfl,(blk_cell BK344.out 2).trans rfl⟩ (fun hHeld => ?_)
             clear hK K
             refine norm_ (a':=?_) ?_ ?_
             rotate_left
             ·show Act.put _ (some 34) _ = _
              simp only [Act.put,sA_,s0_,s1_,i64_w,i32_w]
              rfl
             refine one_ (i:=0) (N:=some 28) #[true,true,true,true,false,true,true,false,true,true,true,false,false] rfl rfl (one_of HT_.out (by kernel_rfl)) (by decide) (fun K hK => ?_)
             refine Kd.R_lit_step k41 _ 41 ?hg (N:=28) ?hd (xs:=([] : List (S41))) (inner := []) (ok:=fun _ => True) (okp:=fun _ => True) ?hr ?hp (fun _ hk => hk) trivial (Below.refl _ _) (Nat.le_refl _) (by simp) ?_;(case hd => rfl);(case hg => rfl);(case hr => (go_simp;done));(case hp => exact (Reps.none _ _))
             intro v378 w67 ho68 hb hg_ hnew_
             clear hg_ hnew_
             (rw [← Ny377.out] at ho68)
             have n0_:=Aside0.mk (Kd.R_elder' (by exact HO389.out) (Kd.R_base ho68) hb)
             have n1_:=Aside0.mk (Kd.R_lower (Kd.R_newB (Kd.R_new' ho68 (Kd.R_lt (by exact HO389.out))) (g:=gb344) (o := .cells #[.int .i64 a1_0, .int .i64 a1_1, .bool a1_2] 41 (0,0)) (by exact BK344.out)) (below_size (by exact HB.out)))
             have n2_:=Aside0.mk (blk_below (g:=gb344) (o := .cells #[.int .i64 a1_0, .int .i64 a1_1, .bool a1_2] 41 (0,0)) (by exact BK344.out) hb)
             have n3_:=Aside0.mk (below_step (by exact HB.out) hb)
             clear HO389
             clear BK344
             clear HB
             have HO389:=n0_
             have HO379:=n1_
             have BK344:=n2_
             have HB:=n3_
             clear n0_ n1_ n2_ n3_
             clear hb ho68
             refine hK.out _ _ ⟨(blk_cell BK344.out 0).trans rfl,(blk_cell BK344.out 1).trans rfl,(blk_cell BK344.out 2).trans rfl⟩ (fun hHeld => ?_)
             clear hK K
             refine norm_ (a':=?_) ?_ ?_
             rotate_left
             ·show Act.put _ (some 28) _ = _
              simp only [Act.put,sA_,s0_,s1_,i64_w,i32_w]
              rfl
             refine one_ (i:=4) (N:=some 32) #[true,true,true,true,true,true,true,false,true,true,true,false,false] rfl rfl (one_of HT_.out (by kernel_rfl)) (by decide) (fun K hK => ?_)
             refine Kd.R_append_rows_step k41 (w0:=w) w.heap.size (by rfl) (.tmp 28) (.tmp 31) 30 41 (.agg #[(.int .i64 0),(.int .i64 0),(.bool false)]) 24 rfl Tryd.underlying30 info41 rfl (by decide) (by omega) v378 y377 y380 _ _ _ (fun k_ => some k_ ≠ (v388 : Value).ownBlock ∧ k_ ≠ gb344) (fun _ => False) rfl rfl ?aO ?aR (fun _ _ h => h) (fun _ h => h.elim) ?aF ?aB ?aS ?aL ?_
             (case aR => repeat (exact (Kd.C_below HR383.out HB.out)))
             (case aB => exact (by exact HB.out))
             (case aF => exact (fun k_ hk => ⟨Kd.fresh' (Kd.R_lt (by exact HO389.out)) k_ hk,Kd.freshB (g:=gb344) (o := .cells #[.int .i64 a1_0, .int .i64 a1_1, .bool a1_2] 41 (0,0)) (by exact BK344.out) k_ hk⟩))
             (case aO => exact (by exact Kd.R_mono HO379.out (fun _ hk => ⟨hk.1.2,hk.2⟩)))
             (case aS => exact (below_size (by exact HB.out)))
             (case aL => have:=LMc54.out;omega)
             intro v385 w69 ho hb hg hat
             rw [← Ny384.out] at ho
             have n0_:=Aside0.mk (blk_grown (g:=gb344) (o := .cells #[.int .i64 a1_0, .int .i64 a1_1, .bool a1_2] 41 (0,0)) (by exact BK344.out) hg (Kd.R_away HO379.out (fun _ hk => hk.2)))
             have n1_:=Aside0.mk (Kd.R_after (ok:=(fun k_ => k_ ≠ gb344)) (by exact Kd.R_mono HO389.out (fun _ hk => ⟨hk.1.2,hk.2⟩)) hg hat)
             have n2_:=Aside0.mk (hb)
             have n3_:=Aside0.mk (ho)
             clear BK344
             clear HO389
             clear HB
             clear HO379
             have BK344:=n0_
             have HO389:=n1_
             have HB:=n2_
             have HO386:=n3_
             clear n0_ n1_ n2_ n3_
             clear ho hb hg hat
             refine hK.out _ _ ⟨(blk_cell BK344.out 0).trans rfl,(blk_cell BK344.out 1).trans rfl,(blk_cell BK344.out 2).trans rfl⟩ (fun hHeld => ?_)
             clear hK K
             refine norm_ (a':=?_) ?_ ?_
             rotate_left
             ·show Act.put _ (some 32) _ = _
              simp only [Act.put,sA_,s0_,s1_,i64_w,i32_w]
              rfl
             exact norm_ (by simp only [putAll,Act.put,sA_,s0_,s1_]) (hCont (v378,v385,v388) _ ⟨hHeld,(by exact HO386.out),(by exact Kd.R_mono HO389.out (fun _ hk => ⟨hk.2,hk.1⟩)),(by exact BK344.out),(by exact HB.out)⟩)
           rintro ⟨v378,v385,v388⟩ w70 ⟨hS_,h0_,h1_,h2_,h3_⟩
           have n0_ : Aside0 (Kd.R k41 41 w70 w.heap.size (fun k_ => some k_ ≠ (v388 : Value).ownBlock ∧ k_ ≠ gb344) v385 y384):=⟨h0_⟩
           have n1_ : Aside0 (Kd.R k41 41 w70 w.heap.size (fun k_ => some k_ ≠ (v385 : Value).ownBlock ∧ k_ ≠ gb344) v388 y387):=⟨h1_⟩
           have n2_ : Aside0 (w70.heap[gb344]? = some (.cells #[.int .i64 a1_0, .int .i64 a1_1, .bool a1_2] 41 (0,0))):=⟨h2_⟩
           have n3_ : Aside0 (Below w.heap.size w w70):=⟨h3_⟩
           clear BK344
           clear HB
           clear h0_ h1_ h2_ h3_
           have HO386:=n0_
           have HO389:=n1_
           have BK344:=n2_
           have HB:=n3_
           clear n0_ n1_ n2_ n3_
           have hHeld : w70.cell? ⟨gb344,0,none⟩ = some (.int .i64 a1_0) ∧ w70.cell? ⟨gb344,1,none⟩ = some (.int .i64 a1_1) ∧ w70.cell? ⟨gb344,2,none⟩ = some (.bool a1_2):=hS_
           obtain ⟨Ao72,co72,eo72⟩ := Kd.R_slice HO389.out
           (subst eo72)
           refine norm_ (a':=?_) ?_ ?_
           rotate_left
           ·simp only [putAll,Act.put,sA_,s0_,s1_]
            rfl
           refine one_ (i:=7) (N:=some 35) #[true,true,true,true,true,true,true,true,true,true,true,false,false] rfl rfl (one_of HT_.out (by kernel_rfl)) (by decide) (fun K hK => ?_)
           refine Kd.R_append_rows_step k41 (w0:=w) w.heap.size (by rfl) (.tmp 32) (.tmp 34) 30 41 (.agg #[(.int .i64 0),(.int .i64 0),(.bool false)]) 24 rfl Tryd.underlying30 info41 rfl (by decide) (by omega) v385 y384 y387 _ _ _ (fun k_ => some k_ ≠ (.slice Ao72 y387.length co72 : Value).ownBlock ∧ k_ ≠ gb344) (fun _ => False) rfl rfl ?aO ?aR (fun _ _ h => h) (fun _ h => h.elim) ?aF ?aB ?aS ?aL ?_
           (case aR => repeat (exact (Kd.R_reads' HO389.out).2.2))
           (case aB => exact (by exact HB.out))
           (case aF => exact (fun k_ hk => ⟨Kd.fresh' (Kd.R_lt (by exact HO389.out)) k_ hk,Kd.freshB (g:=gb344) (o := .cells #[.int .i64 a1_0, .int .i64 a1_1, .bool a1_2] 41 (0,0)) (by exact BK344.out) k_ hk⟩))
           (case aO => exact (by exact HO386.out))
           (case aS => exact (below_size (by exact HB.out)))
           (case aL => have:=LMc55.out;omega)
           intro v391 w71 ho hb hg hat
           rw [← Ny390.out] at ho
           have n0_:=Aside0.mk (blk_grown (g:=gb344) (o := .cells #[.int .i64 a1_0, .int .i64 a1_1, .bool a1_2] 41 (0,0)) (by exact BK344.out) hg (Kd.R_away HO386.out (fun _ hk => hk.2)))
           have n1_:=Aside0.mk (Kd.R_after (ok:=(fun k_ => k_ ≠ gb344)) (by exact Kd.R_mono HO389.out (fun _ hk => ⟨hk.2,hk.1⟩)) hg hat)
           have n2_:=Aside0.mk (hb)
           have n3_:=Aside0.mk (ho)
           clear BK344
           clear HO389
           clear HB
           clear HO386
           have BK344:=n0_
           have HO389:=n1_
           have HB:=n2_
           have HO392:=n3_
           clear n0_ n1_ n2_ n3_
           clear ho hb hg hat
           refine hK.out _ _ ⟨(blk_cell BK344.out 0).trans rfl,(blk_cell BK344.out 1).trans rfl,(blk_cell BK344.out 2).trans rfl⟩ (fun hHeld => ?_)
           clear hK K
           refine norm_ (a':=?_) ?_ ?_
           rotate_left
           ·show Act.put _ (some 35) _ = _
            simp only [Act.put,sA_,s0_,s1_,i64_w,i32_w]
            rfl
           refine one_ (i:=11) (N:=some 39) #[true,true,true,true,true,true,true,true,true,true,true,true,false] rfl rfl (one_of HT_.out (by kernel_rfl)) (by decide) (fun K hK => ?_)
           refine Kd.R_append_rows_step k41 (w0:=w) w.heap.size (by rfl) (.tmp 35) (.tmp 38) 30 41 (.agg #[(.int .i64 0),(.int .i64 0),(.bool false)]) 24 rfl Tryd.underlying30 info41 rfl (by decide) (by omega) v391 y390 y393 _ _ _ (fun k_ => some k_ ≠ (.slice Ao72 y387.length co72 : Value).ownBlock ∧ k_ ≠ gb344) (fun _ => False) rfl rfl ?aO ?aR (fun _ _ h => h) (fun _ h => h.elim) ?aF ?aB ?aS ?aL ?_
           (case aR => repeat (exact (Kd.C_below HR396.out HB.out)))
           (case aB => exact (by exact HB.out))
           (case aF => exact (fun k_ hk => ⟨Kd.fresh' (Kd.R_lt (by exact HO389.out)) k_ hk,Kd.freshB (g:=gb344) (o := .cells #[.int .i64 a1_0, .int .i64 a1_1, .bool a1_2] 41 (0,0)) (by exact BK344.out) k_ hk⟩))
           (case aO => exact (by exact HO392.out))
           (case aS => exact (below_size (by exact HB.out)))
           (case aL => have:=LMc58.out;omega)
           intro v398 w73 ho hb hg hat
           rw [← Ny397.out] at ho
           have n0_:=Aside0.mk (blk_grown (g:=gb344) (o := .cells #[.int .i64 a1_0, .int .i64 a1_1, .bool a1_2] 41 (0,0)) (by exact BK344.out) hg (Kd.R_away HO392.out (fun _ hk => hk.2)))
           have n1_:=Aside0.mk (Kd.R_after (ok:=(fun k_ => k_ ≠ gb344)) (by exact HO389.out) hg hat)
           have n2_:=Aside0.mk (hb)
           have n3_:=Aside0.mk (ho)
           clear BK344
           clear HO389
           clear HB
           clear HO392
           have BK344:=n0_
           have HO389:=n1_
           have HB:=n2_
           have HO399:=n3_
           clear n0_ n1_ n2_ n3_
           clear ho hb hg hat
           refine hK.out _ _ ⟨(blk_cell BK344.out 0).trans rfl,(blk_cell BK344.out 1).trans rfl,(blk_cell BK344.out 2).trans rfl⟩ (fun hHeld => ?_)
           clear hK K
           refine norm_ (a':=?_) ?_ ?_
           rotate_left
           ·show Act.put _ (some 39) _ = _
            simp only [Act.put,sA_,s0_,s1_,i64_w,i32_w]
            rfl
           refine pure_ (i:=12) (N:=some 7) (v:=?_) (a':=?_) #[true,true,true,true,true,true,true,true,true,true,true,true,true] rfl rfl (any_of HT_.out (by kernel_rfl)) (fun _ _ _ h => h) (Or.inl ⟨by rfl, ?_⟩) ?_ ?_
           rotate_left
           ·intro w'
            go_simp
            with_reducible rfl
           rotate_left
           ·simp only [Act.put,sA_,s0_,s1_,i64_w,i32_w]
            rfl
           refine done_ (done_of HT_.out (by kernel_rfl)) ?_
           obtain ⟨Ao74,co74,eo74⟩ := Kd.R_slice HO399.out
           subst eo74
           try go_wp2_with (((with_reducible refine gate_callee (f:=39) rfl ?_);refine goesL_ (some 41) rfl rfl Tryd.func39 (by kernel_rfl) rfl #[.slice Ao74 y397.length co74] rfl (by (try simp only [List.map_toArray,List.map_cons,List.map_nil]);rfl) ?_;(with_reducible refine (spec_l21Good.calls k1 _ _ y397 true _ ?side1 ?side2 A59.out).mono ?_);(case side1 => repeat (exact (Kd.R_reads' HO399.out).2.2));(case side2 => exact (Kd.R_reads' HO399.out).2.1);rintro e w75 ⟨rfl,hb⟩;refine ⟨_,rfl, ?_⟩;have n0_:=Aside0.mk (Kd.R_below (by exact HO389.out) hb);have n1_:=Aside0.mk (Kd.R_below (by exact HO399.out) hb);have n2_:=Aside0.mk (blk_below (g:=gb344) (o := .cells #[.int .i64 a1_0, .int .i64 a1_1, .bool a1_2] 41 (0,0)) (by exact BK344.out) hb);have n3_:=Aside0.mk (below_step (by exact HB.out) hb);clear HO389;clear HO399;clear BK344;clear HB;have HO389:=n0_;have HO399:=n1_;have BK344:=n2_;have HB:=n3_;clear n0_ n1_ n2_ n3_;(try clear hb)))
           go_ret2
           exact ⟨_,by rfl,by exact Kd.R_mono HO399.out (fun _ hk => trivial),by exact HB.out⟩
          ·replace c60:=Bool.eq_false_iff.mpr c60
           subst c60
           have H1 : (some ((([] : List (S41))),false)) = some (r1,r2):=by rw [if_neg (show ¬ (false = true) by decide)] at H;exact H
           clear H
           have H:=H1
           clear H1
           obtain ⟨y401,hy401⟩ : ∃ y_ : List (S41),y_ = (([] : List (S41))):=⟨_,rfl⟩
           replace H : (some (y401,false)) = some (r1,r2):=by (rw [hy401];with_reducible exact H)
           have Ny401:=Aside0.mk hy401
           clear hy401
           simp only [Option.some.injEq,Prod.mk.injEq] at H
           obtain ⟨rfl,rfl⟩ := H
           try go_wp2
           have n0_:=Aside0.mk (blk_drew BK344.out)
           have n1_:=Aside0.mk (below_drew1 HB.out)
           clear BK344
           clear HB
           have BK344:=n0_
           have HB:=n1_
           clear n0_ n1_
           refine start_ (n:=14) (S:=fun w' => True) (ds := []) #[false,false,false,false,false,false,false,false,false,false,false,false,false,false] (by kernel_rfl) rfl rfl trivial (fun hHeld => ?_);refine with_tabW spec_AddReading.tab4 spec_AddReading.bits4 (fun HT_ HW_ => ?_)
           generalize wr.drew = w76 at BK344 HB hHeld ⊢
           refine pure_ (i:=0) (N:=some 12) (v:=?_) (a':=?_) #[true,false,false,false,false,false,false,false,false,false,false,false,false,false] rfl rfl (any_of HT_.out (by kernel_rfl)) (fun _ _ _ h => h) (Or.inl ⟨by rfl, ?_⟩) ?_ ?_
           rotate_left
           ·intro w'
            go_simp
            with_reducible rfl
           rotate_left
           ·simp only [Act.put,sA_,s0_,s1_,i64_w,i32_w]
            rfl
           refine pure_ (i:=1) (N:=some 13) (v:=?_) (a':=?_) #[true,true,false,false,false,false,false,false,false,false,false,false,false,false] rfl rfl (any_of HT_.out (by kernel_rfl)) (fun _ _ _ h => h) (Or.inl ⟨by rfl, ?_⟩) ?_ ?_
           rotate_left
           ·intro w'
            go_simp
            with_reducible rfl
           rotate_left
           ·simp only [Act.put,sA_,s0_,s1_,i64_w,i32_w]
            rfl
           refine pure_ (i:=2) (N:=some 14) (v:=?_) (a':=?_) #[true,true,true,false,false,false,false,false,false,false,false,false,false,false] rfl rfl (any_of HT_.out (by kernel_rfl)) (fun _ _ _ h => h) (Or.inl ⟨by rfl, ?_⟩) ?_ ?_
           rotate_left
           ·intro w'
            go_simp
            with_reducible rfl
           rotate_left
           ·simp only [Act.put,sA_,s0_,s1_,i64_w,i32_w]
            rfl
           refine pure_ (i:=3) (N:=some 15) (v:=?_) (a':=?_) #[true,true,true,true,false,false,false,false,false,false,false,false,false,false] rfl rfl (any_of HT_.out (by kernel_rfl)) (fun _ _ _ h => h) (Or.inl ⟨by rfl, ?_⟩) ?_ ?_
           rotate_left
           ·intro w'
            go_simp
            with_reducible rfl
           rotate_left
           ·simp only [Act.put,sA_,s0_,s1_,i64_w,i32_w]
            rfl
           refine pure_ (i:=4) (N:=some 16) (v:=?_) (a':=?_) #[true,true,true,true,true,false,false,false,false,false,false,false,false,false] rfl rfl (any_of HT_.out (by kernel_rfl)) (fun _ _ _ h => h) (Or.inl ⟨by rfl, ?_⟩) ?_ ?_
           rotate_left
           ·intro w'
            go_simp
            with_reducible rfl
           rotate_left
           ·simp only [Act.put,sA_,s0_,s1_,i64_w,i32_w]
            rfl
           refine pure_ (i:=5) (N:=some 17) (v:=undef) (a':=?_) #[true,true,true,true,true,true,false,false,false,false,false,false,false,false] rfl rfl (any_of HT_.out (by kernel_rfl)) (fun _ _ _ h => h) (Or.inr ⟨by rfl,rfl⟩) ?_ ?_
           rotate_left
           ·simp only [Act.put,sA_,s0_,s1_,i64_w,i32_w]
            rfl
           refine pure_ (i:=6) (N:=some 18) (v:=undef) (a':=?_) #[true,true,true,true,true,true,true,false,false,false,false,false,false,false] rfl rfl (any_of HT_.out (by kernel_rfl)) (fun _ _ _ h => h) (Or.inr ⟨by rfl,rfl⟩) ?_ ?_
           rotate_left
           ·simp only [Act.put,sA_,s0_,s1_,i64_w,i32_w]
            rfl
           refine pure_ (i:=7) (N:=some 19) (v:=undef) (a':=?_) #[true,true,true,true,true,true,true,true,false,false,false,false,false,false] rfl rfl (any_of HT_.out (by kernel_rfl)) (fun _ _ _ h => h) (Or.inr ⟨by rfl,rfl⟩) ?_ ?_
           rotate_left
           ·simp only [Act.put,sA_,s0_,s1_,i64_w,i32_w]
            rfl
           refine pure_ (i:=8) (N:=some 20) (v:=undef) (a':=?_) #[true,true,true,true,true,true,true,true,true,false,false,false,false,false] rfl rfl (any_of HT_.out (by kernel_rfl)) (fun _ _ _ h => h) (Or.inr ⟨by rfl,rfl⟩) ?_ ?_
           rotate_left
           ·simp only [Act.put,sA_,s0_,s1_,i64_w,i32_w]
            rfl
           refine pure_ (i:=9) (N:=some 21) (v:=undef) (a':=?_) #[true,true,true,true,true,true,true,true,true,true,false,false,false,false] rfl rfl (any_of HT_.out (by kernel_rfl)) (fun _ _ _ h => h) (Or.inr ⟨by rfl,rfl⟩) ?_ ?_
           rotate_left
           ·simp only [Act.put,sA_,s0_,s1_,i64_w,i32_w]
            rfl
           refine pure_ (i:=10) (N:=some 22) (v:=undef) (a':=?_) #[true,true,true,true,true,true,true,true,true,true,true,false,false,false] rfl rfl (any_of HT_.out (by kernel_rfl)) (fun _ _ _ h => h) (Or.inr ⟨by rfl,rfl⟩) ?_ ?_
           rotate_left
           ·simp only [Act.put,sA_,s0_,s1_,i64_w,i32_w]
            rfl
           refine pure_ (i:=11) (N:=some 23) (v:=undef) (a':=?_) #[true,true,true,true,true,true,true,true,true,true,true,true,false,false] rfl rfl (any_of HT_.out (by kernel_rfl)) (fun _ _ _ h => h) (Or.inr ⟨by rfl,rfl⟩) ?_ ?_
           rotate_left
           ·simp only [Act.put,sA_,s0_,s1_,i64_w,i32_w]
            rfl
           refine pure_ (i:=12) (N:=some 24) (v:=undef) (a':=?_) #[true,true,true,true,true,true,true,true,true,true,true,true,true,false] rfl rfl (any_of HT_.out (by kernel_rfl)) (fun _ _ _ h => h) (Or.inr ⟨by rfl,rfl⟩) ?_ ?_
           rotate_left
           ·simp only [Act.put,sA_,s0_,s1_,i64_w,i32_w]
            rfl
           refine pure_ (i:=13) (N:=some 25) (v:=?_) (a':=?_) #[true,true,true,true,true,true,true,true,true,true,true,true,true,true] rfl rfl (any_of HT_.out (by kernel_rfl)) (fun _ _ _ h => h) (Or.inl ⟨by rfl, ?_⟩) ?_ ?_
           rotate_left
           ·intro w'
            go_simp
            with_reducible rfl
           rotate_left
           ·simp only [Act.put,sA_,s0_,s1_,i64_w,i32_w]
            rfl
           refine done_ (done_of HT_.out (by kernel_rfl)) ?_
           try go_wp2
           have n0_:=Aside0.mk (blk_drew BK344.out)
           have n1_:=Aside0.mk (below_drew1 HB.out)
           clear BK344
           clear HB
           have BK344:=n0_
           have HB:=n1_
           clear n0_ n1_
           have q78 : (x6_1 : Int) ≤ ((l0.length : Int) : Int):=of_decide_eq_true (by (with_reducible assumption))
           obtain ⟨i078,hi078,_,hsz78,_⟩ := info_parts info41
           have hroom78 : l0.length ≤ c0:=HC0.out
           have hC78 : Kd.C k41 _ A0 l0.length l0:=HR0.out
           have hcut78:=cut_to (P:=Tryd.prog) 30 41 .i64 Tryd.underlying30 hi078 A0 l0.length c0 x6_1 (of_decide_eq_true (by (with_reducible assumption))) q78 hroom78
           have hr78:=Kd.C_take (m:=(x6_1 : Int).toNat) hC78 (by omega)
           have hy78 : y380.length = (x6_1 : Int).toNat:=(by rw [Ny380.out,List.length_take];omega)
           rw [← Ny380.out] at hr78
           rw [← hy78] at hcut78
           have HR383:=Aside0.mk hr78
           have HC383:=Aside0.mk (show y380.length ≤ c0 from by omega)
           clear hr78 hC78 hroom78 hi078 hsz78
           have KY78:=Aside0.mk hy78
           clear hy78
           replace q78:=eq_true q78
           have q79 : (x6_1 : Int) ≤ ((l0.length : Int) : Int):=of_decide_eq_true (by (with_reducible assumption))
           obtain ⟨i079,hi079,_,hsz79,_⟩ := info_parts info41
           have hroom79 : l0.length ≤ c0:=HC0.out
           have hC79 : Kd.C k41 _ A0 l0.length l0:=HR0.out
           have q079 : (0 : Int) ≤ (x6_1 : Int):=of_decide_eq_true (by (with_reducible assumption))
           have hcut79:=cut_from (P:=Tryd.prog) 30 41 .i64 Tryd.underlying30 hi079 3 hsz79 A0 l0.length c0 x6_1 q079 q79
           have hr79:=Kd.C_drop (m:=(x6_1 : Int).toNat) (c:=c0) hC79 (by omega) hroom79
           obtain ⟨A79,hA79⟩ : ∃ A1,A1 = (if c0 = (x6_1 : Int).toNat then A0 else (A0 : Option Addr).map (·.add ((x6_1 : Int).toNat * 3))):=⟨_,rfl⟩
           obtain ⟨c79,hc79⟩ : ∃ c1,c1 = c0 - (x6_1 : Int).toNat:=⟨_,rfl⟩
           have hy79 : y393.length = l0.length - (x6_1 : Int).toNat:=(by rw [Ny393.out,List.length_drop] <;> omega)
           rw [show (l0).drop (x6_1 : Int).toNat = y393 from Ny393.out.symm] at hr79
           replace hr79 : Kd.C k41 _ A79 y393.length y393:=(by rw [hA79];exact hr79)
           rw [← hy79,← hA79,← hc79] at hcut79
           have HR396:=Aside0.mk hr79
           have HC396:=Aside0.mk (show y393.length ≤ c79 from by rw [hy79,hc79];exact Nat.sub_le_sub_right hroom79 _)
           clear hr79 hC79 hroom79 hi079 hsz79 hc79
           have KY79:=Aside0.mk hy79
           have KA79:=Aside0.mk hA79
           clear hy79 hA79
           replace q79:=eq_true q79
           refine start_ (n:=13) (S:=fun w' => w'.cell? ⟨gb344,0,none⟩ = some (.int .i64 a1_0) ∧ w'.cell? ⟨gb344,1,none⟩ = some (.int .i64 a1_1) ∧ w'.cell? ⟨gb344,2,none⟩ = some (.bool a1_2)) (ds := []) #[false,false,false,false,false,false,false,false,false,false,false,false,false] (by kernel_rfl) rfl rfl ⟨(blk_cell BK344.out 0).trans rfl,(blk_cell BK344.out 1).trans rfl,(blk_cell BK344.out 2).trans rfl⟩ (fun hHeld => ?_);refine with_tabW spec_AddReading.tab6 spec_AddReading.bits6 (fun HT_ HW_ => ?_)
           generalize w76.drew = w77 at BK344 HB HR383 HR396 hHeld ⊢
           refine pure_ (i:=1) (N:=some 29) (v:=?_) (a':=?_) #[false,true,false,false,false,false,false,false,false,false,false,false,false] rfl rfl (any_of HT_.out (by kernel_rfl)) (fun _ _ _ h => h) (Or.inl ⟨by rfl, ?_⟩) ?_ ?_
           rotate_left
           ·intro w'
            go_simp
            with_reducible rfl
           rotate_left
           ·simp only [Act.put,sA_,s0_,s1_,i64_w,i32_w]
            rfl
           refine pure_ (i:=2) (N:=some 30) (v:=?_) (a':=?_) #[false,true,true,false,false,false,false,false,false,false,false,false,false] rfl rfl (any_of HT_.out (by kernel_rfl)) (fun _ _ _ h => h) (Or.inl ⟨by rfl, ?_⟩) ?_ ?_
           rotate_left
           ·intro w'
            go_simp
            with_reducible rfl
           rotate_left
           ·simp only [Act.put,sA_,s0_,s1_,i64_w,i32_w]
            rfl
           refine pure_ (i:=3) (N:=some 31) (v:=?_) (a':=?_) #[false,true,true,true,false,false,false,false,false,false,false,false,false] rfl rfl (any_of HT_.out (by kernel_rfl)) (fun _ _ _ h => h) (Or.inl ⟨by rfl, ?_⟩) ?_ ?_
           rotate_left
           ·intro w'
            go_simp
            with_reducible rfl
           rotate_left
           ·simp only [Act.put,sA_,s0_,s1_,i64_w,i32_w]
            rfl
           refine pure_ (i:=8) (N:=some 36) (v:=?_) (a':=?_) #[false,true,true,true,false,false,false,false,true,false,false,false,false] rfl rfl (any_of HT_.out (by kernel_rfl)) (fun _ _ _ h => h) (Or.inl ⟨by rfl, ?_⟩) ?_ ?_
           rotate_left
           ·intro w'
            go_simp
            with_reducible rfl
           rotate_left
           ·simp only [Act.put,sA_,s0_,s1_,i64_w,i32_w]
            rfl
           refine pure_ (i:=9) (N:=some 37) (v:=?_) (a':=?_) #[false,true,true,true,false,false,false,false,true,true,false,false,false] rfl rfl (any_of HT_.out (by kernel_rfl)) (fun _ _ _ h => h) (Or.inl ⟨by rfl, ?_⟩) ?_ ?_
           rotate_left
           ·intro w'
            go_simp
            with_reducible rfl
           rotate_left
           ·simp only [Act.put,sA_,s0_,s1_,i64_w,i32_w]
            rfl
           refine pure_ (i:=10) (N:=some 38) (v:=?_) (a':=?_) #[false,true,true,true,false,false,false,false,true,true,true,false,false] rfl rfl (any_of HT_.out (by kernel_rfl)) (fun _ _ _ h => h) (Or.inl ⟨by rfl, ?_⟩) ?_ ?_
           rotate_left
           ·intro w'
            go_simp
            with_reducible rfl
           rotate_left
           ·simp only [Act.put,sA_,s0_,s1_,i64_w,i32_w]
            rfl
           refine take_ (i:=5) (N:=some 33) (v:=?_) (a':=?_) #[false,true,true,true,false,true,false,false,true,true,true,false,false] rfl rfl (take_ofW HT_.out HW_.out (by kernel_rfl)) (fun _ _ _ h => h) (Or.inl ⟨by rfl, ?_⟩) hHeld ?_ ?_
           rotate_left
           ·rintro w' ⟨s0,s1,s2⟩
            go_simp
            with_reducible rfl
           rotate_left
           ·simp only [Act.put,sA_,s0_,s1_,i64_w,i32_w]
            rfl
           refine join_ (σ:=Value × Value × Value) 3 #[true,true,true,true,true,true,true,false,true,true,true,false,false] (fun s_ => [(28,s_.1),(32,s_.2.1),(34,s_.2.2)]) (fun s_ w' => (w'.cell? ⟨gb344,0,none⟩ = some (.int .i64 a1_0) ∧ w'.cell? ⟨gb344,1,none⟩ = some (.int .i64 a1_1) ∧ w'.cell? ⟨gb344,2,none⟩ = some (.bool a1_2)) ∧ (Kd.R k41 41 w' w.heap.size (fun k_ => some k_ ≠ (s_.2.2 : Value).ownBlock ∧ k_ ≠ gb344) s_.2.1 y384) ∧ (Kd.R k41 41 w' w.heap.size (fun k_ => some k_ ≠ (s_.2.1 : Value).ownBlock ∧ k_ ≠ gb344) s_.2.2 y387) ∧ (w'.heap[gb344]? = some (.cells #[.int .i64 a1_0, .int .i64 a1_1, .bool a1_2] 41 (0,0))) ∧ (Below w.heap.size w w')) ?_ ?_
           rotate_left
           ·intro hCont
            refine two_ (i:=0) (j:=6) (Ni:=some 28) (Nj:=some 34) #[true,true,true,true,false,true,false,false,true,true,true,false,false] #[false,true,true,true,false,true,true,false,true,true,true,false,false] rfl rfl rfl rfl (two_of HT_.out (by kernel_rfl)) (by decide) (by decide) (fun K hK => ?_) (fun K hK => ?_)
            ·skip
             refine Kd.R_lit_step k41 _ 41 ?hg (N:=28) ?hd (xs:=([] : List (S41))) (inner := []) (ok:=fun _ => True) (okp:=fun _ => True) ?hr ?hp (fun _ hk => hk) trivial (Below.refl _ _) (Nat.le_refl _) (by simp) ?_;(case hd => rfl);(case hg => rfl);(case hr => (go_simp;done));(case hp => exact (Reps.none _ _))
             intro v378 w80 ho81 hb hg_ hnew_
             clear hg_ hnew_
             (rw [← Ny377.out] at ho81)
             have n0_:=Aside0.mk (Kd.R_lower (Kd.R_newB ho81 (g:=gb344) (o := .cells #[.int .i64 a1_0, .int .i64 a1_1, .bool a1_2] 41 (0,0)) (by exact BK344.out)) (below_size (by exact HB.out)))
             have n1_:=Aside0.mk (blk_below (g:=gb344) (o := .cells #[.int .i64 a1_0, .int .i64 a1_1, .bool a1_2] 41 (0,0)) (by exact BK344.out) hb)
             have n2_:=Aside0.mk (below_step (by exact HB.out) hb)
             clear BK344
             clear HB
             have HO379:=n0_
             have BK344:=n1_
             have HB:=n2_
             clear n0_ n1_ n2_
             clear hb ho81
             refine hK.out _ _ ⟨(blk_cell BK344.out 0).trans rfl,(blk_cell BK344.out 1).trans rfl,(blk_cell BK344.out 2).trans rfl⟩ (fun hHeld => ?_)
             clear hK K
             refine norm_ (a':=?_) ?_ ?_
             rotate_left
             ·show Act.put _ (some 28) _ = _
              simp only [Act.put,sA_,s0_,s1_,i64_w,i32_w]
              rfl
             refine two_ (i:=4) (j:=6) (Ni:=some 32) (Nj:=some 34) #[true,true,true,true,true,true,false,false,true,true,true,false,false] #[true,true,true,true,false,true,true,false,true,true,true,false,false] rfl rfl rfl rfl (two_of HT_.out (by kernel_rfl)) (by decide) (by decide) (fun K hK => ?_) (fun K hK => ?_)
             ·skip
              refine Kd.R_append_rows_step k41 (w0:=w) w.heap.size (by rfl) (.tmp 28) (.tmp 31) 30 41 (.agg #[(.int .i64 0),(.int .i64 0),(.bool false)]) 24 rfl Tryd.underlying30 info41 rfl (by decide) (by omega) v378 y377 y380 _ _ _ (fun k_ => k_ ≠ gb344) (fun _ => False) rfl rfl ?aO ?aR (fun _ _ h => h) (fun _ h => h.elim) ?aF ?aB ?aS ?aL ?_
              (case aR => repeat (exact (Kd.C_below HR383.out HB.out)))
              (case aB => exact (by exact HB.out))
              (case aF => exact (fun k_ hk => Kd.freshB (g:=gb344) (o := .cells #[.int .i64 a1_0, .int .i64 a1_1, .bool a1_2] 41 (0,0)) (by exact BK344.out) k_ hk))
              (case aO => exact (by exact Kd.R_mono HO379.out (fun _ hk => hk.2)))
              (case aS => exact (below_size (by exact HB.out)))
              (case aL => have:=LMc54.out;omega)
              intro v385 w82 ho hb hg hat
              rw [← Ny384.out] at ho
              have n0_:=Aside0.mk (blk_grown (g:=gb344) (o := .cells #[.int .i64 a1_0, .int .i64 a1_1, .bool a1_2] 41 (0,0)) (by exact BK344.out) hg (Kd.R_away HO379.out (fun _ hk => hk.2)))
              have n1_:=Aside0.mk (hb)
              have n2_:=Aside0.mk (ho)
              clear BK344
              clear HB
              clear HO379
              have BK344:=n0_
              have HB:=n1_
              have HO386:=n2_
              clear n0_ n1_ n2_
              clear ho hb hg hat
              refine hK.out _ _ ⟨(blk_cell BK344.out 0).trans rfl,(blk_cell BK344.out 1).trans rfl,(blk_cell BK344.out 2).trans rfl⟩ (fun hHeld => ?_)
              clear hK K
              refine norm_ (a':=?_) ?_ ?_
              rotate_left
              ·show Act.put _ (some 32) _ = _
               simp only [Act.put,sA_,s0_,s1_,i64_w,i32_w]
               rfl
              refine one_ (i:=6) (N:=some 34) #[true,true,true,true,true,true,true,false,true,true,true,false,false] rfl rfl (one_of HT_.out (by kernel_rfl)) (by decide) (fun K hK => ?_)
              refine Kd.R_lit_step k41 _ 41 ?hg (N:=34) ?hd (xs:=([(⟨a1_0,a1_1,a1_2⟩ : S41)] : List (S41))) (inner := [.int .i64 a1_0, .int .i64 a1_1, .bool a1_2]) (ok:=fun _ => True) (okp:=fun _ => True) ?hr ?hp (fun _ hk => hk) trivial (Below.refl _ _) (Nat.le_refl _) (by simp) ?_;(case hd => rfl);(case hg => rfl);(case hr => (go_simp;done));(case hp => exact (Reps.c3 (show Kd.M k41 _ _ _ (⟨a1_0,a1_1,a1_2⟩ : S41) [.int .i64 a1_0, .int .i64 a1_1, .bool a1_2] from (k41_mkM _ _ _ (⟨a1_0,a1_1,a1_2⟩ : S41) )) (Reps.none _ _)))
              intro v388 w83 ho84 hb hg_ hnew_
              clear hg_ hnew_
              (rw [← Ny387.out] at ho84)
              have n0_:=Aside0.mk (Kd.R_elder' (by exact HO386.out) (Kd.R_base ho84) hb)
              have n1_:=Aside0.mk (Kd.R_lower (Kd.R_newB (Kd.R_new' ho84 (Kd.R_lt (by exact HO386.out))) (g:=gb344) (o := .cells #[.int .i64 a1_0, .int .i64 a1_1, .bool a1_2] 41 (0,0)) (by exact BK344.out)) (below_size (by exact HB.out)))
              have n2_:=Aside0.mk (blk_below (g:=gb344) (o := .cells #[.int .i64 a1_0, .int .i64 a1_1, .bool a1_2] 41 (0,0)) (by exact BK344.out) hb)
              have n3_:=Aside0.mk (below_step (by exact HB.out) hb)
              clear HO386
              clear BK344
              clear HB
              have HO386:=n0_
              have HO389:=n1_
              have BK344:=n2_
              have HB:=n3_
              clear n0_ n1_ n2_ n3_
              clear hb ho84
              refine hK.out _ _ ⟨(blk_cell BK344.out 0).trans rfl,(blk_cell BK344.out 1).trans rfl,(blk_cell BK344.out 2).trans rfl⟩ (fun hHeld => ?_)
              clear hK K
              refine norm_ (a':=?_) ?_ ?_
              rotate_left
              ·show Act.put _ (some 34) _ = _
               simp only [Act.put,sA_,s0_,s1_,i64_w,i32_w]
               rfl
              exact norm_ (by simp only [putAll,Act.put,sA_,s0_,s1_]) (hCont (v378,v385,v388) _ ⟨hHeld,(by exact Kd.R_mono HO386.out (fun _ hk => ⟨hk.2,hk.1⟩)),(by exact Kd.R_mono HO389.out (fun _ hk => ⟨hk.1.2,hk.2⟩)),(by exact BK344.out),(by exact HB.out)⟩)
             ·skip
              refine Kd.R_lit_step k41 _ 41 ?hg (N:=34) ?hd (xs:=([(⟨a1_0,a1_1,a1_2⟩ : S41)] : List (S41))) (inner := [.int .i64 a1_0, .int .i64 a1_1, .bool a1_2]) (ok:=fun _ => True) (okp:=fun _ => True) ?hr ?hp (fun _ hk => hk) trivial (Below.refl _ _) (Nat.le_refl _) (by simp) ?_;(case hd => rfl);(case hg => rfl);(case hr => (go_simp;done));(case hp => exact (Reps.c3 (show Kd.M k41 _ _ _ (⟨a1_0,a1_1,a1_2⟩ : S41) [.int .i64 a1_0, .int .i64 a1_1, .bool a1_2] from (k41_mkM _ _ _ (⟨a1_0,a1_1,a1_2⟩ : S41) )) (Reps.none _ _)))
              intro v388 w82 ho83 hb hg_ hnew_
              clear hg_ hnew_
              (rw [← Ny387.out] at ho83)
              have n0_:=Aside0.mk (Kd.R_elder' (by exact HO379.out) (Kd.R_base ho83) hb)
              have n1_:=Aside0.mk (Kd.R_lower (Kd.R_newB (Kd.R_new' ho83 (Kd.R_lt (by exact HO379.out))) (g:=gb344) (o := .cells #[.int .i64 a1_0, .int .i64 a1_1, .bool a1_2] 41 (0,0)) (by exact BK344.out)) (below_size (by exact HB.out)))
              have n2_:=Aside0.mk (blk_below (g:=gb344) (o := .cells #[.int .i64 a1_0, .int .i64 a1_1, .bool a1_2] 41 (0,0)) (by exact BK344.out) hb)
              have n3_:=Aside0.mk (below_step (by exact HB.out) hb)
              clear HO379
              clear BK344
              clear HB
              have HO379:=n0_
              have HO389:=n1_
              have BK344:=n2_
              have HB:=n3_
              clear n0_ n1_ n2_ n3_
              clear hb ho83
              refine hK.out _ _ ⟨(blk_cell BK344.out 0).trans rfl,(blk_cell BK344.out 1).trans rfl,(blk_cell BK344.out 2).trans rfl⟩ (fun hHeld => ?_)
              clear hK K
              refine norm_ (a':=?_) ?_ ?_
              rotate_left
              ·show Act.put _ (some 34) _ = _
               simp only [Act.put,sA_,s0_,s1_,i64_w,i32_w]
               rfl
              refine one_ (i:=4) (N:=some 32) #[true,true,true,true,true,true,true,false,true,true,true,false,false] rfl rfl (one_of HT_.out (by kernel_rfl)) (by decide) (fun K hK => ?_)
              refine Kd.R_append_rows_step k41 (w0:=w) w.heap.size (by rfl) (.tmp 28) (.tmp 31) 30 41 (.agg #[(.int .i64 0),(.int .i64 0),(.bool false)]) 24 rfl Tryd.underlying30 info41 rfl (by decide) (by omega) v378 y377 y380 _ _ _ (fun k_ => some k_ ≠ (v388 : Value).ownBlock ∧ k_ ≠ gb344) (fun _ => False) rfl rfl ?aO ?aR (fun _ _ h => h) (fun _ h => h.elim) ?aF ?aB ?aS ?aL ?_
              (case aR => repeat (exact (Kd.C_below HR383.out HB.out)))
              (case aB => exact (by exact HB.out))
              (case aF => exact (fun k_ hk => ⟨Kd.fresh' (Kd.R_lt (by exact HO389.out)) k_ hk,Kd.freshB (g:=gb344) (o := .cells #[.int .i64 a1_0, .int .i64 a1_1, .bool a1_2] 41 (0,0)) (by exact BK344.out) k_ hk⟩))
              (case aO => exact (by exact Kd.R_mono HO379.out (fun _ hk => ⟨hk.2,hk.1.2⟩)))
              (case aS => exact (below_size (by exact HB.out)))
              (case aL => have:=LMc54.out;omega)
              intro v385 w84 ho hb hg hat
              rw [← Ny384.out] at ho
              have n0_:=Aside0.mk (blk_grown (g:=gb344) (o := .cells #[.int .i64 a1_0, .int .i64 a1_1, .bool a1_2] 41 (0,0)) (by exact BK344.out) hg (Kd.R_away HO379.out (fun _ hk => hk.1.2)))
              have n1_:=Aside0.mk (Kd.R_after (ok:=(fun k_ => k_ ≠ gb344)) (by exact Kd.R_mono HO389.out (fun _ hk => ⟨hk.2,hk.1.2⟩)) hg hat)
              have n2_:=Aside0.mk (hb)
              have n3_:=Aside0.mk (ho)
              clear BK344
              clear HO389
              clear HB
              clear HO379
              have BK344:=n0_
              have HO389:=n1_
              have HB:=n2_
              have HO386:=n3_
              clear n0_ n1_ n2_ n3_
              clear ho hb hg hat
              refine hK.out _ _ ⟨(blk_cell BK344.out 0).trans rfl,(blk_cell BK344.out 1).trans rfl,(blk_cell BK344.out 2).trans rfl⟩ (fun hHeld => ?_)
              clear hK K
              refine norm_ (a':=?_) ?_ ?_
              rotate_left
              ·show Act.put _ (some 32) _ = _
               simp only [Act.put,sA_,s0_,s1_,i64_w,i32_w]
               rfl
              exact norm_ (by simp only [putAll,Act.put,sA_,s0_,s1_]) (hCont (v378,v385,v388) _ ⟨hHeld,(by exact HO386.out),(by exact Kd.R_mono HO389.out (fun _ hk => ⟨hk.2,hk.1⟩)),(by exact BK344.out),(by exact HB.out)⟩)
            ·skip
             refine Kd.R_lit_step k41 _ 41 ?hg (N:=34) ?hd (xs:=([(⟨a1_0,a1_1,a1_2⟩ : S41)] : List (S41))) (inner := [.int .i64 a1_0, .int .i64 a1_1, .bool a1_2]) (ok:=fun _ => True) (okp:=fun _ => True) ?hr ?hp (fun _ hk => hk) trivial (Below.refl _ _) (Nat.le_refl _) (by simp) ?_;(case hd => rfl);(case hg => rfl);(case hr => (go_simp;done));(case hp => exact (Reps.c3 (show Kd.M k41 _ _ _ (⟨a1_0,a1_1,a1_2⟩ : S41) [.int .i64 a1_0, .int .i64 a1_1, .bool a1_2] from (k41_mkM _ _ _ (⟨a1_0,a1_1,a1_2⟩ : S41) )) (Reps.none _ _)))
             intro v388 w80 ho81 hb hg_ hnew_
             clear hg_ hnew_
             (rw [← Ny387.out] at ho81)
             have n0_:=Aside0.mk (Kd.R_lower (Kd.R_newB ho81 (g:=gb344) (o := .cells #[.int .i64 a1_0, .int .i64 a1_1, .bool a1_2] 41 (0,0)) (by exact BK344.out)) (below_size (by exact HB.out)))
             have n1_:=Aside0.mk (blk_below (g:=gb344) (o := .cells #[.int .i64 a1_0, .int .i64 a1_1, .bool a1_2] 41 (0,0)) (by exact BK344.out) hb)
             have n2_:=Aside0.mk (below_step (by exact HB.out) hb)
             clear BK344
             clear HB
             have HO389:=n0_
             have BK344:=n1_
             have HB:=n2_
             clear n0_ n1_ n2_
             clear hb ho81
             refine hK.out _ _ ⟨(blk_cell BK344.out 0).trans rfl,(blk_cell BK344.out 1).trans rfl,(blk_cell BK344.out 2).trans rfl⟩ (fun hHeld => ?_)
             clear hK K
             refine norm_ (a':=?_) ?_ ?_
             rotate_left
             ·show Act.put _ (some 34) _ = _
              simp only [Act.put,sA_,s0_,s1_,i64_w,i32_w]
              rfl
             refine one_ (i:=0) (N:=some 28) #[true,true,true,true,false,true,true,false,true,true,true,false,false] rfl rfl (one_of HT_.out (by kernel_rfl)) (by decide) (fun K hK => ?_)
             refine Kd.R_lit_step k41 _ 41 ?hg (N:=28) ?hd (xs:=([] : List (S41))) (inner := []) (ok:=fun _ => True) (okp:=fun _ => True) ?hr ?hp (fun _ hk => hk) trivial (Below.refl _ _) (Nat.le_refl _) (by simp) ?_;(case hd => rfl);(case hg => rfl);(case hr => (go_simp;done));(case hp => exact (Reps.none _ _))
             intro v378 w82 ho83 hb hg_ hnew_
             clear hg_ hnew_
             (rw [← Ny377.out] at ho83)
             have n0_:=Aside0.mk (Kd.R_elder' (by exact HO389.out) (Kd.R_base ho83) hb)
             have n1_:=Aside0.mk (Kd.R_lower (Kd.R_newB (Kd.R_new' ho83 (Kd.R_lt (by exact HO389.out))) (g:=gb344) (o := .cells #[.int .i64 a1_0, .int .i64 a1_1, .bool a1_2] 41 (0,0)) (by exact BK344.out)) (below_size (by exact HB.out)))
             have n2_:=Aside0.mk (blk_below (g:=gb344) (o := .cells #[.int .i64 a1_0, .int .i64 a1_1, .bool a1_2] 41 (0,0)) (by exact BK344.out) hb)
             have n3_:=Aside0.mk (below_step (by exact HB.out) hb)
             clear HO389
             clear BK344
             clear HB
             have HO389:=n0_
             have HO379:=n1_
             have BK344:=n2_
             have HB:=n3_
             clear n0_ n1_ n2_ n3_
             clear hb ho83
             refine hK.out _ _ ⟨(blk_cell BK344.out 0).trans rfl,(blk_cell BK344.out 1).trans rfl,(blk_cell BK344.out 2).trans rfl⟩ (fun hHeld => ?_)
             clear hK K
             refine norm_ (a':=?_) ?_ ?_
             rotate_left
             ·show Act.put _ (some 28) _ = _
              simp only [Act.put,sA_,s0_,s1_,i64_w,i32_w]
              rfl
             refine one_ (i:=4) (N:=some 32) #[true,true,true,true,true,true,true,false,true,true,true,false,false] rfl rfl (one_of HT_.out (by kernel_rfl)) (by decide) (fun K hK => ?_)
             refine Kd.R_append_rows_step k41 (w0:=w) w.heap.size (by rfl) (.tmp 28) (.tmp 31) 30 41 (.agg #[(.int .i64 0),(.int .i64 0),(.bool false)]) 24 rfl Tryd.underlying30 info41 rfl (by decide) (by omega) v378 y377 y380 _ _ _ (fun k_ => some k_ ≠ (v388 : Value).ownBlock ∧ k_ ≠ gb344) (fun _ => False) rfl rfl ?aO ?aR (fun _ _ h => h) (fun _ h => h.elim) ?aF ?aB ?aS ?aL ?_
             (case aR => repeat (exact (Kd.C_below HR383.out HB.out)))
             (case aB => exact (by exact HB.out))
             (case aF => exact (fun k_ hk => ⟨Kd.fresh' (Kd.R_lt (by exact HO389.out)) k_ hk,Kd.freshB (g:=gb344) (o := .cells #[.int .i64 a1_0, .int .i64 a1_1, .bool a1_2] 41 (0,0)) (by exact BK344.out) k_ hk⟩))
             (case aO => exact (by exact Kd.R_mono HO379.out (fun _ hk => ⟨hk.1.2,hk.2⟩)))
             (case aS => exact (below_size (by exact HB.out)))
             (case aL => have:=LMc54.out;omega)
             intro v385 w84 ho hb hg hat
             rw [← Ny384.out] at ho
             have n0_:=Aside0.mk (blk_grown (g:=gb344) (o := .cells #[.int .i64 a1_0, .int .i64 a1_1, .bool a1_2] 41 (0,0)) (by exact BK344.out) hg (Kd.R_away HO379.out (fun _ hk => hk.2)))
             have n1_:=Aside0.mk (Kd.R_after (ok:=(fun k_ => k_ ≠ gb344)) (by exact Kd.R_mono HO389.out (fun _ hk => ⟨hk.1.2,hk.2⟩)) hg hat)
             have n2_:=Aside0.mk (hb)
             have n3_:=Aside0.mk (ho)
             clear BK344
             clear HO389
             clear HB
             clear HO379
             have BK344:=n0_
             have HO389:=n1_
             have HB:=n2_
             have HO386:=n3_
             clear n0_ n1_ n2_ n3_
             clear ho hb hg hat
             refine hK.out _ _ ⟨(blk_cell BK344.out 0).trans rfl,(blk_cell BK344.out 1).trans rfl,(blk_cell BK344.out 2).trans rfl⟩ (fun hHeld => ?_)
             clear hK K
             refine norm_ (a':=?_) ?_ ?_
             rotate_left
             ·show Act.put _ (some 32) _ = _
              simp only [Act.put,sA_,s0_,s1_,i64_w,i32_w]
              rfl
             exact norm_ (by simp only [putAll,Act.put,sA_,s0_,s1_]) (hCont (v378,v385,v388) _ ⟨hHeld,(by exact HO386.out),(by exact Kd.R_mono HO389.out (fun _ hk => ⟨hk.2,hk.1⟩)),(by exact BK344.out),(by exact HB.out)⟩)
           rintro ⟨v378,v385,v388⟩ w85 ⟨hS_,h0_,h1_,h2_,h3_⟩
           have n0_ : Aside0 (Kd.R k41 41 w85 w.heap.size (fun k_ => some k_ ≠ (v388 : Value).ownBlock ∧ k_ ≠ gb344) v385 y384):=⟨h0_⟩
           have n1_ : Aside0 (Kd.R k41 41 w85 w.heap.size (fun k_ => some k_ ≠ (v385 : Value).ownBlock ∧ k_ ≠ gb344) v388 y387):=⟨h1_⟩
           have n2_ : Aside0 (w85.heap[gb344]? = some (.cells #[.int .i64 a1_0, .int .i64 a1_1, .bool a1_2] 41 (0,0))):=⟨h2_⟩
           have n3_ : Aside0 (Below w.heap.size w w85):=⟨h3_⟩
           clear BK344
           clear HB
           clear h0_ h1_ h2_ h3_
           have HO386:=n0_
           have HO389:=n1_
           have BK344:=n2_
           have HB:=n3_
           clear n0_ n1_ n2_ n3_
           have hHeld : w85.cell? ⟨gb344,0,none⟩ = some (.int .i64 a1_0) ∧ w85.cell? ⟨gb344,1,none⟩ = some (.int .i64 a1_1) ∧ w85.cell? ⟨gb344,2,none⟩ = some (.bool a1_2):=hS_
           obtain ⟨Ao87,co87,eo87⟩ := Kd.R_slice HO389.out
           (subst eo87)
           refine norm_ (a':=?_) ?_ ?_
           rotate_left
           ·simp only [putAll,Act.put,sA_,s0_,s1_]
            rfl
           refine one_ (i:=7) (N:=some 35) #[true,true,true,true,true,true,true,true,true,true,true,false,false] rfl rfl (one_of HT_.out (by kernel_rfl)) (by decide) (fun K hK => ?_)
           refine Kd.R_append_rows_step k41 (w0:=w) w.heap.size (by rfl) (.tmp 32) (.tmp 34) 30 41 (.agg #[(.int .i64 0),(.int .i64 0),(.bool false)]) 24 rfl Tryd.underlying30 info41 rfl (by decide) (by omega) v385 y384 y387 _ _ _ (fun k_ => some k_ ≠ (.slice Ao87 y387.length co87 : Value).ownBlock ∧ k_ ≠ gb344) (fun _ => False) rfl rfl ?aO ?aR (fun _ _ h => h) (fun _ h => h.elim) ?aF ?aB ?aS ?aL ?_
           (case aR => repeat (exact (Kd.R_reads' HO389.out).2.2))
           (case aB => exact (by exact HB.out))
           (case aF => exact (fun k_ hk => ⟨Kd.fresh' (Kd.R_lt (by exact HO389.out)) k_ hk,Kd.freshB (g:=gb344) (o := .cells #[.int .i64 a1_0, .int .i64 a1_1, .bool a1_2] 41 (0,0)) (by exact BK344.out) k_ hk⟩))
           (case aO => exact (by exact HO386.out))
           (case aS => exact (below_size (by exact HB.out)))
           (case aL => have:=LMc55.out;omega)
           intro v391 w86 ho hb hg hat
           rw [← Ny390.out] at ho
           have n0_:=Aside0.mk (blk_grown (g:=gb344) (o := .cells #[.int .i64 a1_0, .int .i64 a1_1, .bool a1_2] 41 (0,0)) (by exact BK344.out) hg (Kd.R_away HO386.out (fun _ hk => hk.2)))
           have n1_:=Aside0.mk (Kd.R_after (ok:=(fun k_ => k_ ≠ gb344)) (by exact Kd.R_mono HO389.out (fun _ hk => ⟨hk.2,hk.1⟩)) hg hat)
           have n2_:=Aside0.mk (hb)
           have n3_:=Aside0.mk (ho)
           clear BK344
           clear HO389
           clear HB
           clear HO386
           have BK344:=n0_
           have HO389:=n1_
           have HB:=n2_
           have HO392:=n3_
           clear n0_ n1_ n2_ n3_
           clear ho hb hg hat
           refine hK.out _ _ ⟨(blk_cell BK344.out 0).trans rfl,(blk_cell BK344.out 1).trans rfl,(blk_cell BK344.out 2).trans rfl⟩ (fun hHeld => ?_)
           clear hK K
           refine norm_ (a':=?_) ?_ ?_
           rotate_left
           ·show Act.put _ (some 35) _ = _
            simp only [Act.put,sA_,s0_,s1_,i64_w,i32_w]
            rfl
           refine one_ (i:=11) (N:=some 39) #[true,true,true,true,true,true,true,true,true,true,true,true,false] rfl rfl (one_of HT_.out (by kernel_rfl)) (by decide) (fun K hK => ?_)
           refine Kd.R_append_rows_step k41 (w0:=w) w.heap.size (by rfl) (.tmp 35) (.tmp 38) 30 41 (.agg #[(.int .i64 0),(.int .i64 0),(.bool false)]) 24 rfl Tryd.underlying30 info41 rfl (by decide) (by omega) v391 y390 y393 _ _ _ (fun k_ => some k_ ≠ (.slice Ao87 y387.length co87 : Value).ownBlock ∧ k_ ≠ gb344) (fun _ => False) rfl rfl ?aO ?aR (fun _ _ h => h) (fun _ h => h.elim) ?aF ?aB ?aS ?aL ?_
           (case aR => repeat (exact (Kd.C_below HR396.out HB.out)))
           (case aB => exact (by exact HB.out))
           (case aF => exact (fun k_ hk => ⟨Kd.fresh' (Kd.R_lt (by exact HO389.out)) k_ hk,Kd.freshB (g:=gb344) (o := .cells #[.int .i64 a1_0, .int .i64 a1_1, .bool a1_2] 41 (0,0)) (by exact BK344.out) k_ hk⟩))
           (case aO => exact (by exact HO392.out))
           (case aS => exact (below_size (by exact HB.out)))
           (case aL => have:=LMc58.out;omega)
           intro v398 w88 ho hb hg hat
           rw [← Ny397.out] at ho
           have n0_:=Aside0.mk (blk_grown (g:=gb344) (o := .cells #[.int .i64 a1_0, .int .i64 a1_1, .bool a1_2] 41 (0,0)) (by exact BK344.out) hg (Kd.R_away HO392.out (fun _ hk => hk.2)))
           have n1_:=Aside0.mk (Kd.R_after (ok:=(fun k_ => k_ ≠ gb344)) (by exact HO389.out) hg hat)
           have n2_:=Aside0.mk (hb)
           have n3_:=Aside0.mk (ho)
           clear BK344
           clear HO389
           clear HB
           clear HO392
           have BK344:=n0_
           have HO389:=n1_
           have HB:=n2_
           have HO399:=n3_
           clear n0_ n1_ n2_ n3_
           clear ho hb hg hat
           refine hK.out _ _ ⟨(blk_cell BK344.out 0).trans rfl,(blk_cell BK344.out 1).trans rfl,(blk_cell BK344.out 2).trans rfl⟩ (fun hHeld => ?_)
           clear hK K
           refine norm_ (a':=?_) ?_ ?_
           rotate_left
           ·show Act.put _ (some 39) _ = _
            simp only [Act.put,sA_,s0_,s1_,i64_w,i32_w]
            rfl
           refine pure_ (i:=12) (N:=some 7) (v:=?_) (a':=?_) #[true,true,true,true,true,true,true,true,true,true,true,true,true] rfl rfl (any_of HT_.out (by kernel_rfl)) (fun _ _ _ h => h) (Or.inl ⟨by rfl, ?_⟩) ?_ ?_
           rotate_left
           ·intro w'
            go_simp
            with_reducible rfl
           rotate_left
           ·simp only [Act.put,sA_,s0_,s1_,i64_w,i32_w]
            rfl
           refine done_ (done_of HT_.out (by kernel_rfl)) ?_
           obtain ⟨Ao89,co89,eo89⟩ := Kd.R_slice HO399.out
           subst eo89
           try go_wp2_with (first | ((with_reducible refine gate_callee (f:=39) rfl ?_);refine goesL_ (some 41) rfl rfl Tryd.func39 (by kernel_rfl) rfl #[.slice Ao89 y397.length co89] rfl (by (try simp only [List.map_toArray,List.map_cons,List.map_nil]);rfl) ?_;(with_reducible refine (spec_l21Good.calls k1 _ _ y397 false _ ?side1 ?side2 A59.out).mono ?_);(case side1 => repeat (exact (Kd.R_reads' HO399.out).2.2));(case side2 => exact (Kd.R_reads' HO399.out).2.1);rintro e w90 ⟨rfl,hb⟩;refine ⟨_,rfl, ?_⟩;have n0_:=Aside0.mk (Kd.R_below (by exact HO389.out) hb);have n1_:=Aside0.mk (Kd.R_below (by exact HO399.out) hb);have n2_:=Aside0.mk (blk_below (g:=gb344) (o := .cells #[.int .i64 a1_0, .int .i64 a1_1, .bool a1_2] 41 (0,0)) (by exact BK344.out) hb);have n3_:=Aside0.mk (below_step (by exact HB.out) hb);clear HO389;clear HO399;clear BK344;clear HB;have HO389:=n0_;have HO399:=n1_;have BK344:=n2_;have HB:=n3_;clear n0_ n1_ n2_ n3_;(try clear hb)) | ((with_reducible refine gate_dst (N:=43) rfl ?_);refine Kd.R_lit k41 _ 41 ?hg (N:=43) ?hd (xs:=([] : List (S41))) (inner := []) (ok:=fun _ => True) (okp:=fun _ => True) ?hr ?hp (fun _ hk => hk) trivial (Below.refl _ _) (Nat.le_refl _) (by simp) ?_;(case hd => rfl);(case hg => rfl);(case hr => (go_simp;done));(case hp => exact (Reps.none _ _));intro v402 w91 ho92 hb hg_ hnew_;clear hg_ hnew_;(rw [← Ny401.out] at ho92);have n0_:=Aside0.mk (Kd.R_elder' (by exact HO389.out) (Kd.R_base ho92) hb);have n1_:=Aside0.mk (Kd.R_elder' (by exact HO399.out) (Kd.R_base ho92) hb);have n2_:=Aside0.mk (Kd.R_lower (Kd.R_newB (Kd.R_new' (Kd.R_new' ho92 (Kd.R_lt (by exact HO389.out))) (Kd.R_lt (by exact HO399.out))) (g:=gb344) (o := .cells #[.int .i64 a1_0, .int .i64 a1_1, .bool a1_2] 41 (0,0)) (by exact BK344.out)) (below_size (by exact HB.out)));have n3_:=Aside0.mk (blk_below (g:=gb344) (o := .cells #[.int .i64 a1_0, .int .i64 a1_1, .bool a1_2] 41 (0,0)) (by exact BK344.out) hb);have n4_:=Aside0.mk (below_step (by exact HB.out) hb);clear HO389;clear HO399;clear BK344;clear HB;have HO389:=n0_;have HO399:=n1_;have HO403:=n2_;have BK344:=n3_;have HB:=n4_;clear n0_ n1_ n2_ n3_ n4_;clear hb ho92))
           go_ret2
           exact ⟨_,by rfl,by exact Kd.R_mono HO403.out (fun _ hk => trivial),by exact HB.out⟩
         ·rw [if_neg c58] at H
          exact absurd H (by simp)
        ·rw [if_neg c55] at H
         exact absurd H (by simp)
       ·rw [if_neg c54] at H
        exact absurd H (by simp)
      ·rw [if_neg c53] at H
       exact absurd H (by simp)
     ·rw [if_neg c52] at H
      exact absurd H (by simp)
 ·replace c4:=Bool.eq_false_iff.mpr c4
  subst c4
  have H1 : (some ((([] : List (S41))),false)) = some (r1,r2):=by rw [if_neg (show ¬ (false = true) by decide)] at H;exact H
  clear H
  have H:=H1
  clear H1
  obtain ⟨y346,hy346⟩ : ∃ y_ : List (S41),y_ = (([] : List (S41))):=⟨_,rfl⟩
  replace H : (some (y346,false)) = some (r1,r2):=by (rw [hy346];with_reducible exact H)
  have Ny346:=Aside0.mk hy346
  clear hy346
  simp only [Option.some.injEq,Prod.mk.injEq] at H
  obtain ⟨rfl,rfl⟩ := H
  go_enter Tryd.func20,Tryd.ntmps20
  go_wp2_with (first | ((with_reducible refine gate_dst (N:=3) rfl ?_);refine box_event ?hg (N:=3) ?hd (cs:=#[.int .i64 a1_0, .int .i64 a1_1, .bool a1_2]) (t:=41) ?hr ?_;(case hd => rfl);(case hg => rfl);(case hr => (go_simp;done));intro gb344 hg w93 hbox hb;have n0_:=Aside0.mk (below_step (by exact HB.out) hb);have n1_:=Aside0.mk (hbox);have n2_:=Aside0.mk ((by rw [hg];exact (below_size (by exact HB.out)) : w.heap.size ≤ gb344));have n3_:=Aside0.mk ((by rw [hg];exact (below_size (by exact HB.out)) : w.heap.size ≤ gb344));clear HB;have HB:=n0_;have BK344:=n1_;have GW344:=n2_;have GE344:=n3_;clear n0_ n1_ n2_ n3_;clear hb hbox hg) | ((with_reducible refine gate_callee (f:=39) rfl ?_);refine goesL_ (some 9) rfl rfl Tryd.func39 (by kernel_rfl) rfl #[.slice A0 l0.length c0] rfl (by (try simp only [List.map_toArray,List.map_cons,List.map_nil]);rfl) ?_;(with_reducible refine (spec_l21Good.calls k _ _ l0 false _ ?side1 ?side2 A3.out).mono ?_);(case side1 => repeat (exact (Kd.C_below HR0.out HB.out)));(case side2 => exact HC0.out);rintro e w94 ⟨rfl,hb⟩;refine ⟨_,rfl, ?_⟩;have n0_:=Aside0.mk (blk_below (g:=gb344) (o := .cells #[.int .i64 a1_0, .int .i64 a1_1, .bool a1_2] 41 (0,0)) (by exact BK344.out) hb);have n1_:=Aside0.mk (below_step (by exact HB.out) hb);clear BK344;clear HB;have BK344:=n0_;have HB:=n1_;clear n0_ n1_;(try clear hb)) | ((with_reducible refine gate_dst (N:=11) rfl ?_);refine Kd.R_lit k41 _ 41 ?hg (N:=11) ?hd (xs:=([] : List (S41))) (inner := []) (ok:=fun _ => True) (okp:=fun _ => True) ?hr ?hp (fun _ hk => hk) trivial (Below.refl _ _) (Nat.le_refl _) (by simp) ?_;(case hd => rfl);(case hg => rfl);(case hr => (go_simp;done));(case hp => exact (Reps.none _ _));intro v347 w95 ho96 hb hg_ hnew_;clear hg_ hnew_;(rw [← Ny346.out] at ho96);have n0_:=Aside0.mk (Kd.R_lower (Kd.R_newB ho96 (g:=gb344) (o := .cells #[.int .i64 a1_0, .int .i64 a1_1, .bool a1_2] 41 (0,0)) (by exact BK344.out)) (below_size (by exact HB.out)));have n1_:=Aside0.mk (blk_below (g:=gb344) (o := .cells #[.int .i64 a1_0, .int .i64 a1_1, .bool a1_2] 41 (0,0)) (by exact BK344.out) hb);have n2_:=Aside0.mk (below_step (by exact HB.out) hb);clear BK344;clear HB;have HO348:=n0_;have BK344:=n1_;have HB:=n2_;clear n0_ n1_ n2_;clear hb ho96))
  go_ret2
  exact ⟨_,by rfl,by exact Kd.R_mono HO348.out (fun _ hk => trivial),by exact HB.out⟩

end Go.Proofs.YtpelcaijjdgnoaaDoor.PFnReadings
