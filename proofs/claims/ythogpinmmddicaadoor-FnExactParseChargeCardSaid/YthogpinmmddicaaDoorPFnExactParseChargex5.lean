-- Written by a program of this session, over the kit's print (wip/xprint.py)
import Derived.Test.YthogpinmmddicaaDoorPFnExactParseChargex0
import Derived.Test.YthogpinmmddicaaDoorPFnExactParseChargex4
namespace Go.Proofs.YthogpinmmddicaaDoor.PFnExactParseCharge
open Go.RowKit Go.Proofs.YthogpinmmddicaaDoorW.PrintWords Go.Proofs.YthogpinmmddicaaDoorW.PrintLast Go.Proofs.YthogpinmmddicaaDoorW.PrintMore
attribute [local go_sem] max2_int min2_int max_two min_two max_three min_three max_four min_four   -- for this text's walks alone
set_option linter.unusedVariables false
set_option linter.unusedSimpArgs false

/-! ### impl_chargeText: function 18 -/
def impl_chargeText.l0 : Nat → List ByteArray → List (S35) → Int → Int → Int → List (S35) → Int → Option (ByteArray)
 | 0,_,_,_,_,_,_,_ => none
 | k + 1,x3,x12,x13,x14,x173000,x173001,x173002 => if x14 < x13 then (if 0 ≤ x14 then (if x14 < (x12.length : Int) then ((impl_decimal.f ((rd_T35 x12 x14).f0)).bind fun t179 => (if t179.size + 3 ≤ 9223372036854775807 then ((impl_decimal.f ((rd_T35 x12 x14).f1)).bind fun t180 => (if (t179 ++ (⟨#[32,120,32]⟩ : ByteArray)).size + t180.size ≤ 9223372036854775807 then (if x3.length < 8796093022208 then (impl_chargeText.l0 k (x3 ++ [(t179 ++ (⟨#[32,120,32]⟩ : ByteArray)) ++ t180]) x12 x13 (wrap64 (x14 + 1)) x173000 x173001 x173002) else (none)) else (none))) else (none))) else (none)) else (none)) else ((impl_decimal.f x173002).bind fun t184 => (if 6 + t184.size ≤ 9223372036854775807 then (if x3.length < 8796093022208 then ((strings_Join.f (x3 ++ [(⟨#[108,97,114,103,101,32]⟩ : ByteArray) ++ t184]) (⟨#[44,32]⟩ : ByteArray)).bind fun t188 => (some t188)) else (none)) else (none)))
def impl_chargeText.f (k : Nat) (a0_0 : Int) (l0_1 : List (S35)) (a0_2 : Int) : Option (ByteArray):=(impl_decimal.f a0_0).bind fun t173 => (if t173.size + 5 ≤ 9223372036854775807 then (impl_chargeText.l0 k (([t173 ++ (⟨#[32,102,114,101,101]⟩ : ByteArray)] : List ByteArray)) l0_1 (l0_1.length : Int) 0 a0_0 l0_1 a0_2) else (none))
theorem impl_chargeText.mono_l : ∀ k,(∀ y0 y1 y2 y3 y4 y5 y6,LeO (impl_chargeText.l0 k y0 y1 y2 y3 y4 y5 y6) (impl_chargeText.l0 (k + 1) y0 y1 y2 y3 y4 y5 y6))
 | 0 => fun _ _ _ _ _ _ _ r h => by simp [impl_chargeText.l0] at h
 | k + 1 => by
  have ih0:=impl_chargeText.mono_l k
  ·intro y0 y1 y2 y3 y4 y5 y6
   unfold impl_chargeText.l0
   repeat' first
   | (with_reducible exact ih0 _ _ _ _ _ _ _)
   | (with_reducible exact LeO.refl _)
   | (with_reducible exact LeO.none _)
   | (with_reducible refine LeO.ite ?_ ?_)
   | (with_reducible refine LeO.bind ?_ (fun _ => ?_))
   | exact ih0 _ _ _ _ _ _ _
   | exact LeO.none _
   | refine LeO.ite ?_ ?_
   | refine LeO.bind ?_ (fun _ => ?_)
theorem impl_chargeText.mono : ∀ a0 a1 a2 k,LeO (impl_chargeText.f k a0 a1 a2) (impl_chargeText.f (k + 1) a0 a1 a2):=by
 intro a0 a1 a2 k
 have ih0:=impl_chargeText.mono_l k
 unfold impl_chargeText.f
 repeat' first
   | (with_reducible exact ih0 _ _ _ _ _ _ _)
   | (with_reducible exact LeO.refl _)
   | (with_reducible exact LeO.none _)
   | (with_reducible refine LeO.ite ?_ ?_)
   | (with_reducible refine LeO.bind ?_ (fun _ => ?_))
   | exact ih0 _ _ _ _ _ _ _
   | exact LeO.none _
   | refine LeO.ite ?_ ?_
   | refine LeO.bind ?_ (fun _ => ?_)
def impl_chargeText.T5 : Bool × List (List Nat × List Nat):=(true,[([],[]),([],[]),([1],[1]),([2],[2]),([3],[3]),([],[]),([5],[5]),([6,3],[6]),([4,7],[4,7]),([8],[8]),([0,9,7],[0,9]),([10,10,0,1,2,3,4,5,6,7,8,9,10],[0,10])])
def impl_chargeText.B5 : List Nat := [0,0,2,6,14,0,32,110,254,510,1023,2047]
theorem impl_chargeText.tab5 : rtab .any (opsOf Tryd.f18 5) = impl_chargeText.T5:=by kernel_rfl
theorem impl_chargeText.bits5 : waitsOk impl_chargeText.T5.2 impl_chargeText.B5 = true:=by kernel_rfl
set_option maxHeartbeats 8000000 in
set_option maxRecDepth 100000 in
theorem impl_chargeText.calls (k : Nat) (a0_0 : Int) (A0_1 : Option Addr) (c0_1 : Nat) (l0_1 : List (S35)) (a0_2 : Int) (r : ByteArray) (w : World) (hr0_1 : Kd.C k35 w A0_1 l0_1.length l0_1) (hc0_1 : l0_1.length ≤ c0_1) (hT : Go.Proofs.YthogpinmmddicaaDoorW.Met.Met w) (h : impl_chargeText.f k a0_0 l0_1 a0_2 = some r) :
  Calls Tryd.prog 18 #[.agg #[.int .i64 a0_0, .slice A0_1 l0_1.length c0_1, .int .i64 a0_2]] w fun e w' => e = .returned (.string r) ∧ Below w.heap.size w w':=by
 have hu24:=Tryd.underlying24
 have hu35:=Tryd.underlying35
 have HR0_1:=Aside0.mk hr0_1
 have HC0_1:=Aside0.mk hc0_1
 clear hr0_1 hc0_1
 have HB:=Aside0.mk (Below.refl w.heap.size w)
 have H : ((impl_decimal.f a0_0).bind fun t173 => (if t173.size + 5 ≤ 9223372036854775807 then (impl_chargeText.l0 k (([t173 ++ (⟨#[32,102,114,101,101]⟩ : ByteArray)] : List ByteArray)) l0_1 (l0_1.length : Int) 0 a0_0 l0_1 a0_2) else (none))) = some r:=h
 clear h
 replace H:=Option.bind_eq_some_iff.mp H
 obtain ⟨t173,A20,H⟩ := H
 replace H : (if t173.size + 5 ≤ 9223372036854775807 then (impl_chargeText.l0 k (([t173 ++ (⟨#[32,102,114,101,101]⟩ : ByteArray)] : List ByteArray)) l0_1 (l0_1.length : Int) 0 a0_0 l0_1 a0_2) else (none)) = some r:=H
 have A2:=Aside0.mk A20
 clear A20
 by_cases c3 : t173.size + 5 ≤ 9223372036854775807
 ·rw [if_pos c3] at H
  have c3b0:=eq_true c3
  have c3b1 : decide (t173.size + 5 ≤ 9223372036854775807) = true:=decide_eq_true c3
  try have c3b2 : (9223372036854775807 < t173.size + 5) = False:=eq_false (Nat.not_lt.2 c3)
  obtain ⟨y174,hy174⟩ : ∃ y_ : List ByteArray,y_ = (([t173 ++ (⟨#[32,102,114,101,101]⟩ : ByteArray)] : List ByteArray)):=⟨_,rfl⟩
  replace H : (impl_chargeText.l0 k y174 l0_1 (l0_1.length : Int) 0 a0_0 l0_1 a0_2) = some r:=by (rw [hy174];with_reducible exact H)
  have Ny174:=Aside0.mk hy174
  clear hy174
  have H':=Aside0.mk H
  clear H
  go_enter Tryd.func18,Tryd.ntmps18
  go_wp2_with (first | ((with_reducible refine gate_dst (N:=1) rfl ?_);refine box_event ?hg (N:=1) ?hd (cs:=#[.int .i64 a0_0, .slice A0_1 l0_1.length c0_1, .int .i64 a0_2]) (t:=24) ?hr ?_;(case hd => rfl);(case hg => rfl);(case hr => (go_simp;done));intro gb172 hg w4 hbox hb;have n0_:=Aside0.mk (below_step (by exact HB.out) hb);have n1_:=Aside0.mk (hbox);have n2_:=Aside0.mk ((by rw [hg];exact (below_size (by exact HB.out)) : w.heap.size ≤ gb172));have n3_:=Aside0.mk ((by rw [hg];exact (below_size (by exact HB.out)) : w.heap.size ≤ gb172));clear HB;have HB:=n0_;have BK172:=n1_;have GW172:=n2_;have GE172:=n3_;clear n0_ n1_ n2_ n3_;clear hb hbox hg;have hcz5_0 : w4.cell? ⟨gb172,0,none⟩ = some (.int .i64 a0_0):=(blk_cell BK172.out 0).trans rfl;have hcz5_1 : w4.cell? ⟨gb172,1,none⟩ = some (.slice A0_1 l0_1.length c0_1):=(blk_cell BK172.out 1).trans rfl;have hcz5_2 : w4.cell? ⟨gb172,2,none⟩ = some (.int .i64 a0_2):=(blk_cell BK172.out 2).trans rfl;have hfz5_0:=blk_frozen BK172.out 0;have hfz5_1:=blk_frozen BK172.out 1;have hfz5_2:=blk_frozen BK172.out 2) | ((with_reducible refine gate_callee (f:=28) rfl ?_);refine goesL_ (some 8) rfl rfl Tryd.func28 (by kernel_rfl) rfl #[.int .i64 a0_0] rfl (by (try simp only [List.map_toArray,List.map_cons,List.map_nil]);rfl) ?_;(with_reducible refine (impl_decimal.calls (hT:=?sgT) a0_0 t173 _ A2.out).mono ?_);(case sgT => exact Go.Proofs.YthogpinmmddicaaDoorW.Met.Met.below hT (by exact HB.out));rintro e w6 ⟨rfl,hb⟩;refine ⟨_,rfl, ?_⟩;have n0_:=Aside0.mk (blk_below (g:=gb172) (o := .cells #[.int .i64 a0_0, .slice A0_1 l0_1.length c0_1, .int .i64 a0_2] 24 (0,0)) (by exact BK172.out) hb);have n1_:=Aside0.mk (below_step (by exact HB.out) hb);clear BK172;clear HB;have BK172:=n0_;have HB:=n1_;clear n0_ n1_;(try clear hb)) | ((with_reducible refine gate_dst (N:=10) rfl ?_);refine Kd.R_lit Kd.string _ 9 ?hg (N:=10) ?hd (xs:=([t173 ++ (⟨#[32,102,114,101,101]⟩ : ByteArray)] : List ByteArray)) (inner := [.string (t173 ++ (⟨#[32,102,114,101,101]⟩ : ByteArray))]) (ok:=fun _ => True) (okp:=fun _ => True) ?hr ?hp (fun _ hk => hk) trivial (Below.refl _ _) (Nat.le_refl _) (by simp) ?_;(case hd => rfl);(case hg => rfl);(case hr => (go_simp;done));(case hp => exact (Reps.one (show Kd.M Kd.string _ _ _ (t173 ++ (⟨#[32,102,114,101,101]⟩ : ByteArray)) [.string (t173 ++ (⟨#[32,102,114,101,101]⟩ : ByteArray))] from rfl) (Reps.none _ _)));intro v175 w7 ho8 hb hg_ hnew_;clear hg_ hnew_;(rw [← Ny174.out] at ho8);have n0_:=Aside0.mk (Kd.R_lower ho8 (below_size (by exact HB.out)));have n1_:=Aside0.mk (blk_below (g:=gb172) (o := .cells #[.int .i64 a0_0, .slice A0_1 l0_1.length c0_1, .int .i64 a0_2] 24 (0,0)) (by exact BK172.out) hb);have n2_:=Aside0.mk (below_step (by exact HB.out) hb);clear BK172;clear HB;have HO176:=n0_;have BK172:=n1_;have HB:=n2_;clear n0_ n1_ n2_;clear hb ho8;have hcz9_0 : w7.cell? ⟨gb172,0,none⟩ = some (.int .i64 a0_0):=(blk_cell BK172.out 0).trans rfl;have hcz9_1 : w7.cell? ⟨gb172,1,none⟩ = some (.slice A0_1 l0_1.length c0_1):=(blk_cell BK172.out 1).trans rfl;have hcz9_2 : w7.cell? ⟨gb172,2,none⟩ = some (.int .i64 a0_2):=(blk_cell BK172.out 2).trans rfl;have hfz9_0:=blk_frozen BK172.out 0;have hfz9_1:=blk_frozen BK172.out 1;have hfz9_2:=blk_frozen BK172.out 2))
  (skip)
  go_loopg [3,14] k (fun kq v3 v14 w' => ∃ (x3_1 : List ByteArray) (x14_1 : Int),v14 = .int .i64 x14_1 ∧ Aside0 (impl_chargeText.l0 kq x3_1 l0_1 (l0_1.length : Int) x14_1 a0_0 l0_1 a0_2 = some r) ∧ Aside0 (kq ≤ k) ∧ Aside0 (Kd.R Kd.string 9 w' w.heap.size (fun _ => True) v3 x3_1) ∧ Aside0 (w'.heap[gb172]? = some (.cells #[.int .i64 a0_0,(.slice A0_1 l0_1.length c0_1), .int .i64 a0_2] 24 (0,0))) ∧ Aside0 (Below w.heap.size w w'))
  case atStart => exact ⟨(y174),(0),(by rfl),H',⟨Nat.le_refl _⟩,⟨by exact HO176.out⟩,⟨by exact BK172.out⟩,⟨by exact HB.out⟩⟩
  case round =>
   clear H'
   try clear c1
   try clear c2
   try clear p2
   try clear c3
   try clear c3b0
   try clear c3b1
   try clear c3b2
   try clear hcz5_0
   try clear hcz5_1
   try clear hcz5_2
   try clear hcz9_0
   try clear hcz9_1
   try clear hcz9_2
   try clear hfz5_0
   try clear hfz5_1
   try clear hfz5_2
   try clear hfz9_0
   try clear hfz9_1
   try clear hfz9_2
   obtain ⟨x3_1,x14_1,rfl,HA,HK1,HO_3,BK172,HB⟩ := hrel
   cases gk with
   | zero => exact absurd HA.out (by simp [impl_chargeText.l0])
   | succ k1 =>
    have H:=HA.out
    clear HA
    simp only [impl_chargeText.l0] at H
    by_cases c10 : x14_1 < (l0_1.length : Int)
    ·rw [if_pos c10] at H
     have c10b0 : decide (x14_1 < (l0_1.length : Int)) = true:=decide_eq_true c10
     clear c10
     by_cases c11 : 0 ≤ x14_1
     ·rw [if_pos c11] at H
      have c11b0 : decide (0 ≤ x14_1) = true:=decide_eq_true c11
      clear c11
      by_cases c12 : x14_1 < (l0_1.length : Int)
      ·rw [if_pos c12] at H
       have c12b0 : decide (x14_1 < (l0_1.length : Int)) = true:=decide_eq_true c12
       clear c12
       replace H:=Option.bind_eq_some_iff.mp H
       obtain ⟨t179,A130,H⟩ := H
       replace H : (if t179.size + 3 ≤ 9223372036854775807 then ((impl_decimal.f ((rd_T35 l0_1 x14_1).f1)).bind fun t180 => (if (t179 ++ (⟨#[32,120,32]⟩ : ByteArray)).size + t180.size ≤ 9223372036854775807 then (if x3_1.length < 8796093022208 then (impl_chargeText.l0 k1 (x3_1 ++ [(t179 ++ (⟨#[32,120,32]⟩ : ByteArray)) ++ t180]) l0_1 (l0_1.length : Int) (wrap64 (x14_1 + 1)) a0_0 l0_1 a0_2) else (none)) else (none))) else (none)) = some r:=H
       have A13:=Aside0.mk A130
       clear A130
       by_cases c14 : t179.size + 3 ≤ 9223372036854775807
       ·rw [if_pos c14] at H
        have c14b0:=eq_true c14
        have c14b1 : decide (t179.size + 3 ≤ 9223372036854775807) = true:=decide_eq_true c14
        try have c14b2 : (9223372036854775807 < t179.size + 3) = False:=eq_false (Nat.not_lt.2 c14)
        replace H:=Option.bind_eq_some_iff.mp H
        obtain ⟨t180,A150,H⟩ := H
        replace H : (if (t179 ++ (⟨#[32,120,32]⟩ : ByteArray)).size + t180.size ≤ 9223372036854775807 then (if x3_1.length < 8796093022208 then (impl_chargeText.l0 k1 (x3_1 ++ [(t179 ++ (⟨#[32,120,32]⟩ : ByteArray)) ++ t180]) l0_1 (l0_1.length : Int) (wrap64 (x14_1 + 1)) a0_0 l0_1 a0_2) else (none)) else (none)) = some r:=H
        have A15:=Aside0.mk A150
        clear A150
        by_cases c16 : (t179 ++ (⟨#[32,120,32]⟩ : ByteArray)).size + t180.size ≤ 9223372036854775807
        ·rw [if_pos c16] at H
         have c16b0:=eq_true c16
         have c16b1 : decide ((t179 ++ (⟨#[32,120,32]⟩ : ByteArray)).size + t180.size ≤ 9223372036854775807) = true:=decide_eq_true c16
         try have c16b2 : (9223372036854775807 < (t179 ++ (⟨#[32,120,32]⟩ : ByteArray)).size + t180.size) = False:=eq_false (Nat.not_lt.2 c16)
         try have c16b4 : (9223372036854775807 < t179.size + 3 + t180.size) = False:=by have h_:=c16;simp only [ByteArray.size_append,show (⟨#[32,120,32]⟩ : ByteArray).size = 3 from rfl] at h_;exact eq_false (by omega)
         by_cases c17 : x3_1.length < 8796093022208
         ·rw [if_pos c17] at H
          have LMc17:=Aside0.mk c17
          clear c17
          obtain ⟨y181,hy181⟩ : ∃ y_ : List ByteArray,y_ = (x3_1 ++ [(t179 ++ (⟨#[32,120,32]⟩ : ByteArray)) ++ t180]):=⟨_,rfl⟩
          replace H : (impl_chargeText.l0 k1 y181 l0_1 (l0_1.length : Int) (wrap64 (x14_1 + 1)) a0_0 l0_1 a0_2) = some r:=by (rw [hy181];with_reducible exact H)
          have Ny181:=Aside0.mk hy181
          clear hy181
          have H':=Aside0.mk H
          clear H
          have p177 : 0 ≤ (x14_1 : Int):=of_decide_eq_true (by (with_reducible assumption))
          have q177 : x14_1 < (l0_1.length : Int):=of_decide_eq_true (by (with_reducible assumption))
          obtain ⟨ad177,e177,hx177_0,hx177_1⟩ := at_T35 HR0_1.out x14_1 p177 q177
          cases e177
          replace hx177_0:=(HB.out.cell (World.block_lt_of_cell? w _ hx177_0)).trans hx177_0
          replace hx177_1:=(HB.out.cell (World.block_lt_of_cell? w _ hx177_1)).trans hx177_1
          replace p177:=eq_true p177
          replace q177:=eq_true q177
          try go_wp2_with (((with_reducible refine gate_dst (N:=5) rfl ?_);refine box_event ?hg (N:=5) ?hd (cs:=#[.int .i64 0, .int .i64 0]) (t:=35) ?hr ?_;(case hd => rfl);(case hg => rfl);(case hr => (go_simp;done));intro gb178 hg w18 hbox hb;have n0_:=Aside0.mk (Kd.R_below (by exact HO_3.out) hb);have n1_:=Aside0.mk (blk_below (g:=gb172) (o := .cells #[.int .i64 a0_0, .slice (some ad177) l0_1.length c0_1, .int .i64 a0_2] 24 (0,0)) (by exact BK172.out) hb);have n2_:=Aside0.mk (below_step (by exact HB.out) hb);have n3_:=Aside0.mk (hbox);have n4_:=Aside0.mk ((by rw [hg];exact (below_size (by exact HB.out)) : w.heap.size ≤ gb178));have n5_:=Aside0.mk ((by rw [hg];exact (below_size (by exact HB.out)) : w.heap.size ≤ gb178));have n6_:=Aside0.mk ((by rw [hg];exact Nat.ne_of_lt (blk_lt (g:=gb172) (o := .cells #[.int .i64 a0_0, .slice (some ad177) l0_1.length c0_1, .int .i64 a0_2] 24 (0,0)) (by exact BK172.out)) : gb172 ≠ gb178));have n7_:=Aside0.mk ((by rw [hg];exact Nat.ne_of_gt (blk_lt (g:=gb172) (o := .cells #[.int .i64 a0_0, .slice (some ad177) l0_1.length c0_1, .int .i64 a0_2] 24 (0,0)) (by exact BK172.out)) : gb178 ≠ gb172));clear HO_3;clear BK172;clear HB;have HO_3:=n0_;have BK172:=n1_;have HB:=n2_;have BK178:=n3_;have GW178:=n4_;have GE178:=n5_;have NB172_178:=n6_;have NB178_172:=n7_;clear n0_ n1_ n2_ n3_ n4_ n5_ n6_ n7_;clear hb hbox hg;have hnb19:=NB178_172.out;have hnc19:=NB172_178.out;have hcz20_0 : w18.cell? ⟨gb178,0,none⟩ = some (.int .i64 0):=(blk_cell BK178.out 0).trans rfl;have hcz20_1 : w18.cell? ⟨gb178,1,none⟩ = some (.int .i64 0):=(blk_cell BK178.out 1).trans rfl;have hfz20_0:=blk_frozen BK178.out 0;have hfz20_1:=blk_frozen BK178.out 1))
          have n0_ : Aside0 (Kd.R Kd.string 9 ((w18.setCell ⟨gb178,0,none⟩ (.int .i64 ((rd_T35 l0_1 x14_1).f0))).setCell ⟨gb178,1,none⟩ (.int .i64 ((rd_T35 l0_1 x14_1).f1))) w.heap.size (fun _ => True) u3 x3_1):=⟨by exact Kd.R_mono (Kd.R_far (p:=⟨gb178,1,none⟩) (Kd.R_far (p:=⟨gb178,0,none⟩) (Kd.R_types HO_3.out BK178.out (by decide)) (fun _ hk => hk.2) (.int .i64 ((rd_T35 l0_1 x14_1).f0))) (fun _ hk => hk.2) (.int .i64 ((rd_T35 l0_1 x14_1).f1))) (fun _ hk => trivial)⟩
          have n1_ : Aside0 (((w18.setCell ⟨gb178,0,none⟩ (.int .i64 ((rd_T35 l0_1 x14_1).f0))).setCell ⟨gb178,1,none⟩ (.int .i64 ((rd_T35 l0_1 x14_1).f1))).heap[gb172]? = some (.cells #[.int .i64 a0_0, .slice (some ad177) l0_1.length c0_1, .int .i64 a0_2] 24 (0,0))):=⟨by refine blk_far ?_ NB172_178.out _;refine blk_far ?_ NB172_178.out _;exact BK172.out⟩
          have n2_ : Aside0 (((w18.setCell ⟨gb178,0,none⟩ (.int .i64 ((rd_T35 l0_1 x14_1).f0))).setCell ⟨gb178,1,none⟩ (.int .i64 ((rd_T35 l0_1 x14_1).f1))).heap[gb178]? = some (.cells #[.int .i64 ((rd_T35 l0_1 x14_1).f0), .int .i64 ((rd_T35 l0_1 x14_1).f1)] 35 (0,0))):=⟨by refine blk_put (cs:=#[.int .i64 ((rd_T35 l0_1 x14_1).f0), .int .i64 0]) ?_ 1 _ rfl;refine blk_put (cs:=#[.int .i64 0, .int .i64 0]) ?_ 0 _ rfl;exact BK178.out⟩
          have n3_ : Aside0 (Below w.heap.size w ((w18.setCell ⟨gb178,0,none⟩ (.int .i64 ((rd_T35 l0_1 x14_1).f0))).setCell ⟨gb178,1,none⟩ (.int .i64 ((rd_T35 l0_1 x14_1).f1)))):=⟨by repeat ((with_reducible first | exact HB.out | refine below_set ?_ GE178.out))⟩
          (try clear HO_3)
          (try clear BK172)
          (try clear BK178)
          (try clear HB)
          generalize ((w18.setCell ⟨gb178,0,none⟩ (.int .i64 ((rd_T35 l0_1 x14_1).f0))).setCell ⟨gb178,1,none⟩ (.int .i64 ((rd_T35 l0_1 x14_1).f1))) = w21 at n0_ n1_ n2_ n3_ ⊢
          have HO_3:=n0_
          have BK172:=n1_
          have BK178:=n2_
          have HB:=n3_
          clear n0_ n1_ n2_ n3_
          have n0_:=Aside0.mk (Kd.R_drew HO_3.out)
          have n1_:=Aside0.mk (blk_drew BK172.out)
          have n2_:=Aside0.mk (blk_drew BK178.out)
          have n3_:=Aside0.mk (below_drew1 HB.out)
          clear HO_3
          clear BK172
          clear BK178
          clear HB
          have HO_3:=n0_
          have BK172:=n1_
          have BK178:=n2_
          have HB:=n3_
          clear n0_ n1_ n2_ n3_
          refine start_ (n:=12) (S:=fun w' => w'.cell? ⟨gb178,0,none⟩ = some (.int .i64 ((rd_T35 l0_1 x14_1).f0)) ∧ w'.cell? ⟨gb178,1,none⟩ = some (.int .i64 ((rd_T35 l0_1 x14_1).f1))) (ds := []) #[false,false,false,false,false,false,false,false,false,false,false,false] (by kernel_rfl) rfl rfl ⟨(blk_cell BK178.out 0).trans rfl,(blk_cell BK178.out 1).trans rfl⟩ (fun hHeld => ?_);refine with_tabW impl_chargeText.tab5 impl_chargeText.bits5 (fun HT_ HW_ => ?_)
          generalize w21.drew = w22 at HO_3 BK172 BK178 HB hHeld ⊢
          refine pure_ (i:=0) (N:=some 18) (v:=?_) (a':=?_) #[true,false,false,false,false,false,false,false,false,false,false,false] rfl rfl (any_of HT_.out (by kernel_rfl)) (fun _ _ _ h => h) (Or.inl ⟨by rfl, ?_⟩) ?_ ?_
          rotate_left
          ·intro w'
           go_simp
           with_reducible rfl
          rotate_left
          ·simp only [Act.put,sA_,s0_,s1_,i64_w,i32_w]
           rfl
          refine pure_ (i:=1) (N:=some 19) (v:=?_) (a':=?_) #[true,true,false,false,false,false,false,false,false,false,false,false] rfl rfl (any_of HT_.out (by kernel_rfl)) (fun _ _ _ h => h) (Or.inl ⟨by rfl, ?_⟩) ?_ ?_
          rotate_left
          ·intro w'
           go_simp
           with_reducible rfl
          rotate_left
          ·simp only [Act.put,sA_,s0_,s1_,i64_w,i32_w]
           rfl
          refine pure_ (i:=5) (N:=some 23) (v:=?_) (a':=?_) #[true,true,false,false,false,true,false,false,false,false,false,false] rfl rfl (any_of HT_.out (by kernel_rfl)) (fun _ _ _ h => h) (Or.inl ⟨by rfl, ?_⟩) ?_ ?_
          rotate_left
          ·intro w'
           go_simp
           with_reducible rfl
          rotate_left
          ·simp only [Act.put,sA_,s0_,s1_,i64_w,i32_w]
           rfl
          refine take_ (i:=2) (N:=some 20) (v:=?_) (a':=?_) #[true,true,true,false,false,true,false,false,false,false,false,false] rfl rfl (take_ofW HT_.out HW_.out (by kernel_rfl)) (fun _ _ _ h => h) (Or.inl ⟨by rfl, ?_⟩) hHeld ?_ ?_
          rotate_left
          ·rintro w' ⟨s0,s1⟩
           go_simp
           with_reducible rfl
          rotate_left
          ·simp only [Act.put,sA_,s0_,s1_,i64_w,i32_w]
           rfl
          refine take_ (i:=6) (N:=some 24) (v:=?_) (a':=?_) #[true,true,true,false,false,true,true,false,false,false,false,false] rfl rfl (take_ofW HT_.out HW_.out (by kernel_rfl)) (fun _ _ _ h => h) (Or.inl ⟨by rfl, ?_⟩) hHeld ?_ ?_
          rotate_left
          ·rintro w' ⟨s0,s1⟩
           go_simp
           with_reducible rfl
          rotate_left
          ·simp only [Act.put,sA_,s0_,s1_,i64_w,i32_w]
           rfl
          refine one_ (i:=3) (N:=some 21) #[true,true,true,true,false,true,true,false,false,false,false,false] rfl rfl (one_of HT_.out (by kernel_rfl)) (by decide) (fun K hK => ?_)
          refine goes_ Tryd.func28 (by kernel_rfl) rfl #[.int .i64 ((rd_T35 l0_1 x14_1).f0)] (by rfl) rfl rfl (by (try simp only [List.map_toArray,List.map_cons,List.map_nil]);rfl) ?_
          with_reducible refine (impl_decimal.calls (hT:=Go.Proofs.YthogpinmmddicaaDoorW.Met.Met.below hT (by exact HB.out)) ((rd_T35 l0_1 x14_1).f0) t179 _ A13.out).mono ?_
          rintro e w23 ⟨rfl,hb⟩
          refine ⟨_,rfl, ?_⟩
          have n0_:=Aside0.mk (Kd.R_below (by exact HO_3.out) hb)
          have n1_:=Aside0.mk (blk_below (g:=gb172) (o := .cells #[.int .i64 a0_0, .slice (some ad177) l0_1.length c0_1, .int .i64 a0_2] 24 (0,0)) (by exact BK172.out) hb)
          have n2_:=Aside0.mk (blk_below (g:=gb178) (o := .cells #[.int .i64 ((rd_T35 l0_1 x14_1).f0), .int .i64 ((rd_T35 l0_1 x14_1).f1)] 35 (0,0)) (by exact BK178.out) hb)
          have n3_:=Aside0.mk (below_step (by exact HB.out) hb)
          clear HO_3
          clear BK172
          clear BK178
          clear HB
          have HO_3:=n0_
          have BK172:=n1_
          have BK178:=n2_
          have HB:=n3_
          clear n0_ n1_ n2_ n3_
          (try clear hb)
          (skip)
          (skip)
          (skip)
          refine hK.out _ _ ⟨(blk_cell BK178.out 0).trans rfl,(blk_cell BK178.out 1).trans rfl⟩ (fun hHeld => ?_)
          clear hK K
          refine norm_ (a':=?_) ?_ ?_
          rotate_left
          ·show Act.put _ (some 21) _ = _
           simp only [Act.put,sA_,s0_,s1_,i64_w,i32_w]
           rfl
          refine pure_ (i:=4) (N:=some 22) (v:=?_) (a':=?_) #[true,true,true,true,true,true,true,false,false,false,false,false] rfl rfl (any_of HT_.out (by kernel_rfl)) (fun _ _ _ h => h) (Or.inl ⟨by rfl, ?_⟩) ?_ ?_
          rotate_left
          ·intro w'
           go_simp
           with_reducible rfl
          rotate_left
          ·simp only [Act.put,sA_,s0_,s1_,i64_w,i32_w]
           rfl
          refine one_ (i:=7) (N:=some 25) #[true,true,true,true,true,true,true,true,false,false,false,false] rfl rfl (one_of HT_.out (by kernel_rfl)) (by decide) (fun K hK => ?_)
          refine goes_ Tryd.func28 (by kernel_rfl) rfl #[.int .i64 ((rd_T35 l0_1 x14_1).f1)] (by rfl) rfl rfl (by (try simp only [List.map_toArray,List.map_cons,List.map_nil]);rfl) ?_
          with_reducible refine (impl_decimal.calls (hT:=Go.Proofs.YthogpinmmddicaaDoorW.Met.Met.below hT (by exact HB.out)) ((rd_T35 l0_1 x14_1).f1) t180 _ A15.out).mono ?_
          rintro e w24 ⟨rfl,hb⟩
          refine ⟨_,rfl, ?_⟩
          have n0_:=Aside0.mk (Kd.R_below (by exact HO_3.out) hb)
          have n1_:=Aside0.mk (blk_below (g:=gb172) (o := .cells #[.int .i64 a0_0, .slice (some ad177) l0_1.length c0_1, .int .i64 a0_2] 24 (0,0)) (by exact BK172.out) hb)
          have n2_:=Aside0.mk (blk_below (g:=gb178) (o := .cells #[.int .i64 ((rd_T35 l0_1 x14_1).f0), .int .i64 ((rd_T35 l0_1 x14_1).f1)] 35 (0,0)) (by exact BK178.out) hb)
          have n3_:=Aside0.mk (below_step (by exact HB.out) hb)
          clear HO_3
          clear BK172
          clear BK178
          clear HB
          have HO_3:=n0_
          have BK172:=n1_
          have BK178:=n2_
          have HB:=n3_
          clear n0_ n1_ n2_ n3_
          (try clear hb)
          (skip)
          (skip)
          (skip)
          refine hK.out _ _ ⟨(blk_cell BK178.out 0).trans rfl,(blk_cell BK178.out 1).trans rfl⟩ (fun hHeld => ?_)
          clear hK K
          refine norm_ (a':=?_) ?_ ?_
          rotate_left
          ·show Act.put _ (some 25) _ = _
           simp only [Act.put,sA_,s0_,s1_,i64_w,i32_w]
           rfl
          refine pure_ (i:=8) (N:=some 26) (v:=?_) (a':=?_) #[true,true,true,true,true,true,true,true,true,false,false,false] rfl rfl (any_of HT_.out (by kernel_rfl)) (fun _ _ _ h => h) (Or.inl ⟨by rfl, ?_⟩) ?_ ?_
          rotate_left
          ·intro w'
           go_simp
           with_reducible rfl
          rotate_left
          ·simp only [Act.put,sA_,s0_,s1_,i64_w,i32_w]
           rfl
          refine one_ (i:=9) (N:=some 27) #[true,true,true,true,true,true,true,true,true,true,false,false] rfl rfl (one_of HT_.out (by kernel_rfl)) (by decide) (fun K hK => ?_)
          refine value_ (w1:=?_) (v:=?_) (by rfl) rfl ?_ ?_
          rotate_left 2
          ·go_simp
           constructor
           ·rfl
           ·rfl
          refine hK.out _ _ ⟨(blk_cell (blk_alloc BK178.out _) 0).trans rfl,(blk_cell (blk_alloc BK178.out _) 1).trans rfl⟩ (fun hHeld => ?_)
          clear hK K
          refine norm_ (a':=?_) ?_ ?_
          rotate_left
          ·show Act.put _ (some 27) _ = _
           simp only [Act.put,sA_,s0_,s1_,i64_w,i32_w]
           rfl
          refine one_ (i:=10) (N:=some 28) #[true,true,true,true,true,true,true,true,true,true,true,false] rfl rfl (one_of HT_.out (by kernel_rfl)) (by decide) (fun K hK => ?_)
          refine Kd.R_append_step Kd.string (w0:=w) w.heap.size (by rfl) (.tmp 18) (.tmp 27) 30 9 (.string ⟨#[]⟩) 16 rfl Tryd.underlying30 info9 rfl (by decide) (by omega) u3 x3_1 ((t179 ++ (⟨#[32,120,32]⟩ : ByteArray)) ++ t180) [.string ((t179 ++ (⟨#[32,120,32]⟩ : ByteArray)) ++ t180)] (fun _ => True) (fun _ => False) rfl rfl ?aP (fun _ hk => hk.elim) ?aF ?aO ?aB ?aS ?aL ?_
          (case aP => exact rfl)
          (case aB => exact (by exact HB.out))
          (case aF => exact (fun _ _ => trivial))
          (case aO => exact (by exact HO_3.out))
          (case aS => exact (below_size (by exact HB.out)))
          (case aL => have:=LMc17.out;omega)
          intro v182 w25 ho hb hg hat
          rw [← Ny181.out] at ho
          have n0_:=Aside0.mk (blk_grown (g:=gb172) (o := .cells #[.int .i64 a0_0, .slice (some ad177) l0_1.length c0_1, .int .i64 a0_2] 24 (0,0)) (by exact BK172.out) hg (Kd.R_ne HO_3.out BK172.out (by decide)))
          have n1_:=Aside0.mk (blk_grown (g:=gb178) (o := .cells #[.int .i64 ((rd_T35 l0_1 x14_1).f0), .int .i64 ((rd_T35 l0_1 x14_1).f1)] 35 (0,0)) (by exact BK178.out) hg (Kd.R_ne HO_3.out BK178.out (by decide)))
          have n2_:=Aside0.mk (hb)
          have n3_:=Aside0.mk (ho)
          clear BK172
          clear BK178
          clear HB
          clear HO_3
          have BK172:=n0_
          have BK178:=n1_
          have HB:=n2_
          have HO183:=n3_
          clear n0_ n1_ n2_ n3_
          clear ho hb hg hat
          refine hK.out _ _ ⟨(blk_cell BK178.out 0).trans rfl,(blk_cell BK178.out 1).trans rfl⟩ (fun hHeld => ?_)
          clear hK K
          refine norm_ (a':=?_) ?_ ?_
          rotate_left
          ·show Act.put _ (some 28) _ = _
           simp only [Act.put,sA_,s0_,s1_,i64_w,i32_w]
           rfl
          refine pure_ (i:=11) (N:=some 3) (v:=?_) (a':=?_) #[true,true,true,true,true,true,true,true,true,true,true,true] rfl rfl (any_of HT_.out (by kernel_rfl)) (fun _ _ _ h => h) (Or.inl ⟨by rfl, ?_⟩) ?_ ?_
          rotate_left
          ·intro w'
           go_simp
           with_reducible rfl
          rotate_left
          ·simp only [Act.put,sA_,s0_,s1_,i64_w,i32_w]
           rfl
          refine done_ (done_of HT_.out (by kernel_rfl)) ?_
          try go_wp2
          go_roundg k1
          case measure => have:=HK1.out;omega
          case rel => exact ⟨(y181),(wrap64 (x14_1 + 1)),(by rfl),H',⟨by have:=HK1.out;omega⟩,⟨by exact HO183.out⟩,⟨by exact BK172.out⟩,⟨by exact HB.out⟩⟩
         ·rw [if_neg c17] at H
          exact absurd H (by simp)
        ·rw [if_neg c16] at H
         exact absurd H (by simp)
       ·rw [if_neg c14] at H
        exact absurd H (by simp)
      ·rw [if_neg c12] at H
       exact absurd H (by simp)
     ·rw [if_neg c11] at H
      exact absurd H (by simp)
    ·rw [if_neg c10] at H
     have c10b0 : decide (x14_1 < (l0_1.length : Int)) = false:=decide_eq_false c10
     clear c10
     replace H:=Option.bind_eq_some_iff.mp H
     obtain ⟨t184,A260,H⟩ := H
     replace H : (if 6 + t184.size ≤ 9223372036854775807 then (if x3_1.length < 8796093022208 then ((strings_Join.f (x3_1 ++ [(⟨#[108,97,114,103,101,32]⟩ : ByteArray) ++ t184]) (⟨#[44,32]⟩ : ByteArray)).bind fun t188 => (some t188)) else (none)) else (none)) = some r:=H
     have A26:=Aside0.mk A260
     clear A260
     by_cases c27 : 6 + t184.size ≤ 9223372036854775807
     ·rw [if_pos c27] at H
      have c27b0:=eq_true c27
      have c27b1 : decide (6 + t184.size ≤ 9223372036854775807) = true:=decide_eq_true c27
      try have c27b2 : (9223372036854775807 < 6 + t184.size) = False:=eq_false (Nat.not_lt.2 c27)
      by_cases c28 : x3_1.length < 8796093022208
      ·rw [if_pos c28] at H
       have LMc28:=Aside0.mk c28
       clear c28
       obtain ⟨y185,hy185⟩ : ∃ y_ : List ByteArray,y_ = (x3_1 ++ [(⟨#[108,97,114,103,101,32]⟩ : ByteArray) ++ t184]):=⟨_,rfl⟩
       replace H : ((strings_Join.f y185 (⟨#[44,32]⟩ : ByteArray)).bind fun t188 => (some t188)) = some r:=by (rw [hy185];with_reducible exact H)
       have Ny185:=Aside0.mk hy185
       clear hy185
       replace H:=Option.bind_eq_some_iff.mp H
       obtain ⟨t188,A290,H⟩ := H
       replace H : (some t188) = some r:=H
       have A29:=Aside0.mk A290
       clear A290
       obtain rfl:=Option.some.inj H
       have hcz30_0 : wr.cell? ⟨gb172,0,none⟩ = some (.int .i64 a0_0):=(blk_cell BK172.out 0).trans rfl
       have hcz30_1 : wr.cell? ⟨gb172,1,none⟩ = some (.slice A0_1 l0_1.length c0_1):=(blk_cell BK172.out 1).trans rfl
       have hcz30_2 : wr.cell? ⟨gb172,2,none⟩ = some (.int .i64 a0_2):=(blk_cell BK172.out 2).trans rfl
       have hfz30_0:=blk_frozen BK172.out 0
       have hfz30_1:=blk_frozen BK172.out 1
       have hfz30_2:=blk_frozen BK172.out 2
       go_wp2_with (first | ((with_reducible refine gate_callee (f:=28) rfl ?_);refine goesL_ (some 33) rfl rfl Tryd.func28 (by kernel_rfl) rfl #[.int .i64 a0_2] rfl (by (try simp only [List.map_toArray,List.map_cons,List.map_nil]);rfl) ?_;(with_reducible refine (impl_decimal.calls (hT:=?sgT) a0_2 t184 _ A26.out).mono ?_);(case sgT => exact Go.Proofs.YthogpinmmddicaaDoorW.Met.Met.below hT (by exact HB.out));rintro e w31 ⟨rfl,hb⟩;refine ⟨_,rfl, ?_⟩;have n0_:=Aside0.mk (Kd.R_below (by exact HO_3.out) hb);have n1_:=Aside0.mk (blk_below (g:=gb172) (o := .cells #[.int .i64 a0_0, .slice A0_1 l0_1.length c0_1, .int .i64 a0_2] 24 (0,0)) (by exact BK172.out) hb);have n2_:=Aside0.mk (below_step (by exact HB.out) hb);clear HO_3;clear BK172;clear HB;have HO_3:=n0_;have BK172:=n1_;have HB:=n2_;clear n0_ n1_ n2_;(try clear hb)) | ((with_reducible refine gate_builtin (b := .append) (xs:=#[.tmp 30, .tmp 35]) rfl ?_);at_builtin;refine Kd.R_append Kd.string (w0:=w) w.heap.size rfl (.tmp 30) (.tmp 35) 30 9 (.string ⟨#[]⟩) 16 rfl Tryd.underlying30 info9 rfl (by decide) (by omega) u3 x3_1 ((⟨#[108,97,114,103,101,32]⟩ : ByteArray) ++ t184) [.string ((⟨#[108,97,114,103,101,32]⟩ : ByteArray) ++ t184)] (fun _ => True) (fun _ => False) rfl rfl ?aP (fun _ hk => hk.elim) ?aF ?aO ?aB ?aS ?aL ?_;(case aP => exact rfl);(case aB => exact (by exact HB.out));(case aF => exact (fun _ _ => trivial));(case aO => exact (by exact HO_3.out));(case aS => exact (below_size (by exact HB.out)));(case aL => have:=LMc28.out;omega);intro v186 w32 ho hb hg hat;rw [← Ny185.out] at ho;have n0_:=Aside0.mk (blk_grown (g:=gb172) (o := .cells #[.int .i64 a0_0, .slice A0_1 l0_1.length c0_1, .int .i64 a0_2] 24 (0,0)) (by exact BK172.out) hg (Kd.R_ne HO_3.out BK172.out (by decide)));have n1_:=Aside0.mk (hb);have n2_:=Aside0.mk (ho);clear BK172;clear HB;clear HO_3;have BK172:=n0_;have HB:=n1_;have HO187:=n2_;clear n0_ n1_ n2_;clear ho hb hg hat;obtain ⟨Ao33,co33,eo33⟩ := Kd.R_slice HO187.out;subst eo33) | ((with_reducible refine gate_callee (f:=34) rfl ?_);refine goesL_ (some 37) rfl rfl Tryd.func34 (by kernel_rfl) rfl #[.slice Ao33 y185.length co33, .string (⟨#[44,32]⟩ : ByteArray)] rfl (by (try simp only [List.map_toArray,List.map_cons,List.map_nil]);rfl) ?_;(with_reducible refine (strings_Join.calls _ _ y185 (⟨#[44,32]⟩ : ByteArray) t188 _ ?side1 ?side2 A29.out).mono ?_);(case side1 => repeat (exact (Kd.R_reads' HO187.out).2.2));(case side2 => exact (Kd.R_reads' HO187.out).2.1);rintro e w34 ⟨rfl,hb⟩;refine ⟨_,rfl, ?_⟩;have n0_:=Aside0.mk (Kd.R_below (by exact HO187.out) hb);have n1_:=Aside0.mk (blk_below (g:=gb172) (o := .cells #[.int .i64 a0_0, .slice A0_1 l0_1.length c0_1, .int .i64 a0_2] 24 (0,0)) (by exact BK172.out) hb);have n2_:=Aside0.mk (below_step (by exact HB.out) hb);clear HO187;clear BK172;clear HB;have HO187:=n0_;have BK172:=n1_;have HB:=n2_;clear n0_ n1_ n2_;(try clear hb)))
       go_ret
       exact ⟨by rfl,by exact HB.out⟩
      ·rw [if_neg c28] at H
       exact absurd H (by simp)
     ·rw [if_neg c27] at H
      exact absurd H (by simp)
 ·rw [if_neg c3] at H
  exact absurd H (by simp)

/-! ### impl_ParseCharge: function 5 -/
def impl_ParseCharge.l0 : Nat → ByteArray → List ByteArray → List ByteArray → Int → Int → Int → List (S35) → Int → Option (Int × (List (S35)) × Int × Bool)
 | 0,_,_,_,_,_,_,_,_ => none
 | k + 1,x0,x4,x47,x48,x49,x194000,x194001,x194002 => if x49 < x48 then (if 0 ≤ x49 then (if x49 < (x47.length : Int) then ((strings_Cut.f (rdOf ByteArray.empty x47 x49) (⟨#[32,120,32]⟩ : ByteArray)).bind fun bt207 => ((impl_ParseInt.f bt207.1).bind fun bt210 => ((impl_ParseInt.f bt207.2.1).bind fun bt212 => (if x194001.length < 8796093022208 then (impl_ParseCharge.l0 k x0 x4 x47 x48 (wrap64 (x49 + 1)) x194000 (x194001 ++ [(⟨bt210.1,bt212.1⟩ : S35)]) x194002) else (none))))) else (none)) else (none)) else ((impl_IsValidCharge.f k x194000 x194001 x194002).bind fun t217 => (if t217 = true then ((impl_chargeText.f k x194000 x194001 x194002).bind fun t218 => (if t218.toList = x0.toList then (some (x194000,x194001,x194002,true)) else (some (0,([] : List (S35)),0,false)))) else (some (0,([] : List (S35)),0,false))))
def impl_ParseCharge.f (k : Nat) (a0 : ByteArray) : Option (Int × (List (S35)) × Int × Bool):=(strings_Split.f a0 (⟨#[44,32]⟩ : ByteArray)).bind fun t190 => (if (t190.length : Int) < 3 then (some (0,([] : List (S35)),0,false)) else (if 0 < (t190.length : Int) then ((strings_TrimSuffix.f (rdOf ByteArray.empty t190 0) (⟨#[32,102,114,101,101]⟩ : ByteArray)).bind fun t195 => ((impl_ParseInt.f t195).bind fun bt196 => (if 0 ≤ (wrap64 ((t190.length : Int) - 1)) then (if (wrap64 ((t190.length : Int) - 1)) < (t190.length : Int) then ((strings_TrimPrefix.f (rdOf ByteArray.empty t190 (wrap64 ((t190.length : Int) - 1))) (⟨#[108,97,114,103,101,32]⟩ : ByteArray)).bind fun t199 => ((impl_ParseInt.f t199).bind fun bt200 => (if 1 ≤ (wrap64 ((t190.length : Int) - 1)) then (if (wrap64 ((t190.length : Int) - 1)) ≤ (t190.length : Int) then ((some ((t190.take ((wrap64 ((t190.length : Int) - 1)) : Int).toNat).drop 1 : List ByteArray)).bind fun y202 => (impl_ParseCharge.l0 k a0 t190 y202 (y202.length : Int) 0 bt196.1 ([] : List (S35)) bt200.1)) else (none)) else (none)))) else (none)) else (none)))) else (none)))
theorem impl_ParseCharge.mono_l : ∀ k,(∀ y0 y1 y2 y3 y4 y5 y6 y7,LeO (impl_ParseCharge.l0 k y0 y1 y2 y3 y4 y5 y6 y7) (impl_ParseCharge.l0 (k + 1) y0 y1 y2 y3 y4 y5 y6 y7))
 | 0 => fun _ _ _ _ _ _ _ _ r h => by simp [impl_ParseCharge.l0] at h
 | k + 1 => by
  have ih0:=impl_ParseCharge.mono_l k
  ·intro y0 y1 y2 y3 y4 y5 y6 y7
   unfold impl_ParseCharge.l0
   repeat' first
   | (with_reducible exact ih0 _ _ _ _ _ _ _ _)
   | (with_reducible exact impl_IsValidCharge.mono _ _ _ _)
   | (with_reducible exact impl_chargeText.mono _ _ _ _)
   | (with_reducible exact LeO.refl _)
   | (with_reducible exact LeO.none _)
   | (with_reducible refine LeO.ite ?_ ?_)
   | (with_reducible refine LeO.bind ?_ (fun _ => ?_))
   | exact ih0 _ _ _ _ _ _ _ _
   | exact impl_IsValidCharge.mono _ _ _ _
   | exact impl_chargeText.mono _ _ _ _
   | exact LeO.none _
   | refine LeO.ite ?_ ?_
   | refine LeO.bind ?_ (fun _ => ?_)
theorem impl_ParseCharge.mono : ∀ a0 k,LeO (impl_ParseCharge.f k a0) (impl_ParseCharge.f (k + 1) a0):=by
 intro a0 k
 have ih0:=impl_ParseCharge.mono_l k
 unfold impl_ParseCharge.f
 repeat' first
   | (with_reducible exact ih0 _ _ _ _ _ _ _ _)
   | (with_reducible exact impl_IsValidCharge.mono _ _ _ _)
   | (with_reducible exact impl_chargeText.mono _ _ _ _)
   | (with_reducible exact LeO.refl _)
   | (with_reducible exact LeO.none _)
   | (with_reducible refine LeO.ite ?_ ?_)
   | (with_reducible refine LeO.bind ?_ (fun _ => ?_))
   | exact ih0 _ _ _ _ _ _ _ _
   | exact impl_IsValidCharge.mono _ _ _ _
   | exact impl_chargeText.mono _ _ _ _
   | exact LeO.none _
   | refine LeO.ite ?_ ?_
   | refine LeO.bind ?_ (fun _ => ?_)
set_option maxHeartbeats 8000000 in
set_option maxRecDepth 100000 in
theorem impl_ParseCharge.calls (k : Nat) (a0 : ByteArray) (r1 : Int) (r2 : List (S35)) (r3 : Int) (r4 : Bool) (w : World) (hT : Go.Proofs.YthogpinmmddicaaDoorW.Met.Met w) (h : impl_ParseCharge.f k a0 = some (r1,r2,r3,r4)) :
  Calls Tryd.prog 5 #[.string a0] w fun e w' => ∃ v1_ : Value,e = .returned (.tuple #[.agg #[.int .i64 r1,v1_, .int .i64 r3], .bool r4]) ∧ Kd.R k35 35 w' w.heap.size (fun _ => True) v1_ r2 ∧ Below w.heap.size w w':=by
 have hu24:=Tryd.underlying24
 have hu35:=Tryd.underlying35
 have HB:=Aside0.mk (Below.refl w.heap.size w)
 have H : ((strings_Split.f a0 (⟨#[44,32]⟩ : ByteArray)).bind fun t190 => (if (t190.length : Int) < 3 then (some (0,([] : List (S35)),0,false)) else (if 0 < (t190.length : Int) then ((strings_TrimSuffix.f (rdOf ByteArray.empty t190 0) (⟨#[32,102,114,101,101]⟩ : ByteArray)).bind fun t195 => ((impl_ParseInt.f t195).bind fun bt196 => (if 0 ≤ (wrap64 ((t190.length : Int) - 1)) then (if (wrap64 ((t190.length : Int) - 1)) < (t190.length : Int) then ((strings_TrimPrefix.f (rdOf ByteArray.empty t190 (wrap64 ((t190.length : Int) - 1))) (⟨#[108,97,114,103,101,32]⟩ : ByteArray)).bind fun t199 => ((impl_ParseInt.f t199).bind fun bt200 => (if 1 ≤ (wrap64 ((t190.length : Int) - 1)) then (if (wrap64 ((t190.length : Int) - 1)) ≤ (t190.length : Int) then ((some ((t190.take ((wrap64 ((t190.length : Int) - 1)) : Int).toNat).drop 1 : List ByteArray)).bind fun y202 => (impl_ParseCharge.l0 k a0 t190 y202 (y202.length : Int) 0 bt196.1 ([] : List (S35)) bt200.1)) else (none)) else (none)))) else (none)) else (none)))) else (none)))) = some (r1,r2,r3,r4):=h
 clear h
 replace H:=Option.bind_eq_some_iff.mp H
 obtain ⟨t190,A20,H⟩ := H
 replace H : (if (t190.length : Int) < 3 then (some (0,([] : List (S35)),0,false)) else (if 0 < (t190.length : Int) then ((strings_TrimSuffix.f (rdOf ByteArray.empty t190 0) (⟨#[32,102,114,101,101]⟩ : ByteArray)).bind fun t195 => ((impl_ParseInt.f t195).bind fun bt196 => (if 0 ≤ (wrap64 ((t190.length : Int) - 1)) then (if (wrap64 ((t190.length : Int) - 1)) < (t190.length : Int) then ((strings_TrimPrefix.f (rdOf ByteArray.empty t190 (wrap64 ((t190.length : Int) - 1))) (⟨#[108,97,114,103,101,32]⟩ : ByteArray)).bind fun t199 => ((impl_ParseInt.f t199).bind fun bt200 => (if 1 ≤ (wrap64 ((t190.length : Int) - 1)) then (if (wrap64 ((t190.length : Int) - 1)) ≤ (t190.length : Int) then ((some ((t190.take ((wrap64 ((t190.length : Int) - 1)) : Int).toNat).drop 1 : List ByteArray)).bind fun y202 => (impl_ParseCharge.l0 k a0 t190 y202 (y202.length : Int) 0 bt196.1 ([] : List (S35)) bt200.1)) else (none)) else (none)))) else (none)) else (none)))) else (none))) = some (r1,r2,r3,r4):=H
 have A2:=Aside0.mk A20
 clear A20
 by_cases c3 : (t190.length : Int) < 3
 ·rw [if_pos c3] at H
  have c3b0 : decide ((t190.length : Int) < 3) = true:=decide_eq_true c3
  have c3b1 : decide (t190.length < 3) = true:=decide_eq_true (by omega)
  clear c3
  simp only [Option.some.injEq,Prod.mk.injEq] at H
  obtain ⟨rfl,rfl,rfl,rfl⟩ := H
  go_enter Tryd.func5,Tryd.ntmps5
  go_wp2_with (first | ((with_reducible refine gate_dst (N:=2) rfl ?_);refine box_event ?hg (N:=2) ?hd (cs:=#[.int .i64 0, .slice none 0 0, .int .i64 0]) (t:=24) ?hr ?_;(case hd => rfl);(case hg => rfl);(case hr => (go_simp;done));intro gb189 hg w4 hbox hb;have n0_:=Aside0.mk (below_step (by exact HB.out) hb);have n1_:=Aside0.mk (hbox);have n2_:=Aside0.mk ((by rw [hg];exact (below_size (by exact HB.out)) : w.heap.size ≤ gb189));have n3_:=Aside0.mk ((by rw [hg];exact (below_size (by exact HB.out)) : w.heap.size ≤ gb189));clear HB;have HB:=n0_;have BK189:=n1_;have GW189:=n2_;have GE189:=n3_;clear n0_ n1_ n2_ n3_;clear hb hbox hg) | ((with_reducible refine gate_callee (f:=12) rfl ?_);refine goesL_ (some 17) rfl rfl Tryd.func12 (by kernel_rfl) rfl #[.string a0, .string (⟨#[44,32]⟩ : ByteArray)] rfl (by (try simp only [List.map_toArray,List.map_cons,List.map_nil]);rfl) ?_;(with_reducible refine (strings_Split.calls (hT:=?sgT) a0 (⟨#[44,32]⟩ : ByteArray) t190 _ A2.out).mono ?_);(case sgT => exact Go.Proofs.YthogpinmmddicaaDoorW.Met.Met.below hT (by exact HB.out));rintro e w5 ⟨v191,rfl,ho0,hb⟩;refine ⟨_,rfl, ?_⟩;have n0_:=Aside0.mk (Kd.R_lower ho0 (below_size (by exact HB.out)));have n1_:=Aside0.mk (blk_below (g:=gb189) (o := .cells #[.int .i64 0, .slice none 0 0, .int .i64 0] 24 (0,0)) (by exact BK189.out) hb);have n2_:=Aside0.mk (below_step (by exact HB.out) hb);clear BK189;clear HB;have HO192:=n0_;have BK189:=n1_;have HB:=n2_;clear n0_ n1_ n2_;(try clear hb);(try clear ho0);obtain ⟨Ao6,co6,eo6⟩ := Kd.R_slice HO192.out;subst eo6;have hcz7_0 : w5.cell? ⟨gb189,0,none⟩ = some (.int .i64 0):=(blk_cell BK189.out 0).trans rfl;have hcz7_1 : w5.cell? ⟨gb189,1,none⟩ = some (.slice none 0 0):=(blk_cell BK189.out 1).trans rfl;have hcz7_2 : w5.cell? ⟨gb189,2,none⟩ = some (.int .i64 0):=(blk_cell BK189.out 2).trans rfl;have hfz7_0:=blk_frozen BK189.out 0;have hfz7_1:=blk_frozen BK189.out 1;have hfz7_2:=blk_frozen BK189.out 2))
  refine bodyPost_ret (results_ct rfl _ _ gb189 24 #[.int .i64 0, .slice none 0 0, .int .i64 0] (0,0) _ rfl (by refine blk_put (cs:=#[.int .i64 0, .slice none 0 0, .int .i64 0]) ?_ 2 _ rfl;refine blk_put (cs:=#[.int .i64 0, .slice none 0 0, .int .i64 0]) ?_ 1 _ rfl;refine blk_put (cs:=#[.int .i64 0, .slice none 0 0, .int .i64 0]) ?_ 0 _ rfl;exact BK189.out) Tryd.underlying24 rfl (by kernel_rfl)) rfl ?_
  exact ⟨_,by rfl,by exact Kd.R_nil _ _ _ _ _,by repeat ((with_reducible first | exact HB.out | refine below_set ?_ GE189.out))⟩
 ·rw [if_neg c3] at H
  have c3b0 : decide ((t190.length : Int) < 3) = false:=decide_eq_false c3
  have c3b1 : decide (t190.length < 3) = false:=decide_eq_false (by omega)
  clear c3
  by_cases c8 : 0 < (t190.length : Int)
  ·rw [if_pos c8] at H
   have c8b0 : decide (0 < (t190.length : Int)) = true:=decide_eq_true c8
   have c8b1 : decide (0 < t190.length) = true:=decide_eq_true (by omega)
   clear c8
   replace H:=Option.bind_eq_some_iff.mp H
   obtain ⟨t195,A90,H⟩ := H
   replace H : ((impl_ParseInt.f t195).bind fun bt196 => (if 0 ≤ (wrap64 ((t190.length : Int) - 1)) then (if (wrap64 ((t190.length : Int) - 1)) < (t190.length : Int) then ((strings_TrimPrefix.f (rdOf ByteArray.empty t190 (wrap64 ((t190.length : Int) - 1))) (⟨#[108,97,114,103,101,32]⟩ : ByteArray)).bind fun t199 => ((impl_ParseInt.f t199).bind fun bt200 => (if 1 ≤ (wrap64 ((t190.length : Int) - 1)) then (if (wrap64 ((t190.length : Int) - 1)) ≤ (t190.length : Int) then ((some ((t190.take ((wrap64 ((t190.length : Int) - 1)) : Int).toNat).drop 1 : List ByteArray)).bind fun y202 => (impl_ParseCharge.l0 k a0 t190 y202 (y202.length : Int) 0 bt196.1 ([] : List (S35)) bt200.1)) else (none)) else (none)))) else (none)) else (none))) = some (r1,r2,r3,r4):=H
   have A9:=Aside0.mk A90
   clear A90
   replace H:=Option.bind_eq_some_iff.mp H
   obtain ⟨⟨t196,t197⟩,A100,H⟩ := H
   replace H : (if 0 ≤ (wrap64 ((t190.length : Int) - 1)) then (if (wrap64 ((t190.length : Int) - 1)) < (t190.length : Int) then ((strings_TrimPrefix.f (rdOf ByteArray.empty t190 (wrap64 ((t190.length : Int) - 1))) (⟨#[108,97,114,103,101,32]⟩ : ByteArray)).bind fun t199 => ((impl_ParseInt.f t199).bind fun bt200 => (if 1 ≤ (wrap64 ((t190.length : Int) - 1)) then (if (wrap64 ((t190.length : Int) - 1)) ≤ (t190.length : Int) then ((some ((t190.take ((wrap64 ((t190.length : Int) - 1)) : Int).toNat).drop 1 : List ByteArray)).bind fun y202 => (impl_ParseCharge.l0 k a0 t190 y202 (y202.length : Int) 0 t196 ([] : List (S35)) bt200.1)) else (none)) else (none)))) else (none)) else (none)) = some (r1,r2,r3,r4):=H
   have A10:=Aside0.mk A100
   clear A100
   obtain ⟨ji11,hji11⟩ : ∃ j_ : Int,(wrap64 ((t190.length : Int) - 1)) = j_:=⟨_,rfl⟩
   replace H : (if 0 ≤ (ji11) then (if (ji11) < (t190.length : Int) then ((strings_TrimPrefix.f (rdOf ByteArray.empty t190 (ji11)) (⟨#[108,97,114,103,101,32]⟩ : ByteArray)).bind fun t199 => ((impl_ParseInt.f t199).bind fun bt200 => (if 1 ≤ (ji11) then (if (ji11) ≤ (t190.length : Int) then ((some ((t190.take ((ji11) : Int).toNat).drop 1 : List ByteArray)).bind fun y202 => (impl_ParseCharge.l0 k a0 t190 y202 (y202.length : Int) 0 t196 ([] : List (S35)) bt200.1)) else (none)) else (none)))) else (none)) else (none)) = some (r1,r2,r3,r4):=by (rw [hji11] at H;exact H)
   (skip)
   (skip)
   (skip)
   have hji11w : (IntKind.i64.wrap ((t190.length : Int) - 1)) = ji11:=(i64_w _).trans hji11
   by_cases c12 : 0 ≤ (ji11)
   ·rw [if_pos c12] at H
    have c12b0 : decide (0 ≤ (ji11)) = true:=decide_eq_true c12
    clear c12
    by_cases c13 : (ji11) < (t190.length : Int)
    ·rw [if_pos c13] at H
     have c13b0 : decide ((ji11) < (t190.length : Int)) = true:=decide_eq_true c13
     clear c13
     replace H:=Option.bind_eq_some_iff.mp H
     obtain ⟨t199,A140,H⟩ := H
     replace H : ((impl_ParseInt.f t199).bind fun bt200 => (if 1 ≤ (ji11) then (if (ji11) ≤ (t190.length : Int) then ((some ((t190.take ((ji11) : Int).toNat).drop 1 : List ByteArray)).bind fun y202 => (impl_ParseCharge.l0 k a0 t190 y202 (y202.length : Int) 0 t196 ([] : List (S35)) bt200.1)) else (none)) else (none))) = some (r1,r2,r3,r4):=H
     have A14:=Aside0.mk A140
     clear A140
     replace H:=Option.bind_eq_some_iff.mp H
     obtain ⟨⟨t200,t201⟩,A150,H⟩ := H
     replace H : (if 1 ≤ (ji11) then (if (ji11) ≤ (t190.length : Int) then ((some ((t190.take ((ji11) : Int).toNat).drop 1 : List ByteArray)).bind fun y202 => (impl_ParseCharge.l0 k a0 t190 y202 (y202.length : Int) 0 t196 ([] : List (S35)) t200)) else (none)) else (none)) = some (r1,r2,r3,r4):=H
     have A15:=Aside0.mk A150
     clear A150
     by_cases c16 : 1 ≤ (ji11)
     ·rw [if_pos c16] at H
      have c16b0:=eq_true c16
      have c16b1 : decide (1 ≤ (ji11)) = true:=decide_eq_true c16
      clear c16
      by_cases c17 : (ji11) ≤ (t190.length : Int)
      ·rw [if_pos c17] at H
       have c17b0:=eq_true c17
       have c17b1 : decide ((ji11) ≤ (t190.length : Int)) = true:=decide_eq_true c17
       clear c17
       obtain ⟨y202,hy202⟩ : ∃ y_ : List ByteArray,y_ = ((t190.take ((ji11) : Int).toNat).drop 1):=⟨_,rfl⟩
       replace H : (impl_ParseCharge.l0 k a0 t190 y202 (y202.length : Int) 0 t196 ([] : List (S35)) t200) = some (r1,r2,r3,r4):=by (have H2_:=(Option.bind_some _ _).symm.trans H;rw [hy202];with_reducible exact H2_)
       have Ny202:=Aside0.mk hy202
       clear hy202
       have H':=Aside0.mk H
       clear H
       go_enter Tryd.func5,Tryd.ntmps5
       go_wp2_with (first | ((with_reducible refine gate_dst (N:=2) rfl ?_);refine box_event ?hg (N:=2) ?hd (cs:=#[.int .i64 0, .slice none 0 0, .int .i64 0]) (t:=24) ?hr ?_;(case hd => rfl);(case hg => rfl);(case hr => (go_simp;done));intro gb189 hg w18 hbox hb;have n0_:=Aside0.mk (below_step (by exact HB.out) hb);have n1_:=Aside0.mk (hbox);have n2_:=Aside0.mk ((by rw [hg];exact (below_size (by exact HB.out)) : w.heap.size ≤ gb189));have n3_:=Aside0.mk ((by rw [hg];exact (below_size (by exact HB.out)) : w.heap.size ≤ gb189));clear HB;have HB:=n0_;have BK189:=n1_;have GW189:=n2_;have GE189:=n3_;clear n0_ n1_ n2_ n3_;clear hb hbox hg) | ((with_reducible refine gate_callee (f:=12) rfl ?_);refine goesL_ (some 17) rfl rfl Tryd.func12 (by kernel_rfl) rfl #[.string a0, .string (⟨#[44,32]⟩ : ByteArray)] rfl (by (try simp only [List.map_toArray,List.map_cons,List.map_nil]);rfl) ?_;(with_reducible refine (strings_Split.calls (hT:=?sgT) a0 (⟨#[44,32]⟩ : ByteArray) t190 _ A2.out).mono ?_);(case sgT => exact Go.Proofs.YthogpinmmddicaaDoorW.Met.Met.below hT (by exact HB.out));rintro e w19 ⟨v191,rfl,ho0,hb⟩;refine ⟨_,rfl, ?_⟩;have n0_:=Aside0.mk (Kd.R_lower ho0 (below_size (by exact HB.out)));have n1_:=Aside0.mk (blk_below (g:=gb189) (o := .cells #[.int .i64 0, .slice none 0 0, .int .i64 0] 24 (0,0)) (by exact BK189.out) hb);have n2_:=Aside0.mk (below_step (by exact HB.out) hb);clear BK189;clear HB;have HO192:=n0_;have BK189:=n1_;have HB:=n2_;clear n0_ n1_ n2_;(try clear hb);(try clear ho0);obtain ⟨Ao20,co20,eo20⟩ := Kd.R_slice HO192.out;subst eo20) | ((with_reducible refine gate_dst (N:=5) rfl ?_);refine box_event ?hg (N:=5) ?hd (cs:=#[.int .i64 0, .slice none 0 0, .int .i64 0]) (t:=24) ?hr ?_;(case hd => rfl);(case hg => rfl);(case hr => (go_simp;done));intro gb193 hg w21 hbox hb;have n0_:=Aside0.mk (Kd.R_below (by exact HO192.out) hb);have n1_:=Aside0.mk (blk_below (g:=gb189) (o := .cells #[.int .i64 0, .slice none 0 0, .int .i64 0] 24 (0,0)) (by exact BK189.out) hb);have n2_:=Aside0.mk (below_step (by exact HB.out) hb);have n3_:=Aside0.mk (hbox);have n4_:=Aside0.mk ((by rw [hg];exact (below_size (by exact HB.out)) : w.heap.size ≤ gb193));have n5_:=Aside0.mk ((by rw [hg];exact (below_size (by exact HB.out)) : w.heap.size ≤ gb193));have n6_:=Aside0.mk ((by rw [hg];exact Nat.ne_of_lt (blk_lt (g:=gb189) (o := .cells #[.int .i64 0, .slice none 0 0, .int .i64 0] 24 (0,0)) (by exact BK189.out)) : gb189 ≠ gb193));have n7_:=Aside0.mk ((by rw [hg];exact Nat.ne_of_gt (blk_lt (g:=gb189) (o := .cells #[.int .i64 0, .slice none 0 0, .int .i64 0] 24 (0,0)) (by exact BK189.out)) : gb193 ≠ gb189));clear HO192;clear BK189;clear HB;have HO192:=n0_;have BK189:=n1_;have HB:=n2_;have BK193:=n3_;have GW193:=n4_;have GE193:=n5_;have NB189_193:=n6_;have NB193_189:=n7_;clear n0_ n1_ n2_ n3_ n4_ n5_ n6_ n7_;clear hb hbox hg;have hnb22:=NB193_189.out;have hnc22:=NB189_193.out;have hcz23_0 : w21.cell? ⟨gb193,0,none⟩ = some (.int .i64 0):=(blk_cell BK193.out 0).trans rfl;have hcz23_1 : w21.cell? ⟨gb193,1,none⟩ = some (.slice none 0 0):=(blk_cell BK193.out 1).trans rfl;have hcz23_2 : w21.cell? ⟨gb193,2,none⟩ = some (.int .i64 0):=(blk_cell BK193.out 2).trans rfl;have hfz23_0:=blk_frozen BK193.out 0;have hfz23_1:=blk_frozen BK193.out 1;have hfz23_2:=blk_frozen BK193.out 2;have p194 : 0 ≤ (0 : Int):=(by omega);have q194 : 0 < (t190.length : Int):=of_decide_eq_true (by (with_reducible assumption));obtain ⟨ad194,e194,hx194_0⟩ := Kd.at_string (Kd.R_reads' HO192.out).2.2 0 p194 q194;cases e194;have qi194 : (0 < t190.length) = True:=eq_true (by omega);(try rw [show ((0 : Int)).toNat = 0 from rfl] at hx194_0);(try rw [Addr.add_zero'] at hx194_0);have hn194_0 : ad194.block ≠ gb193:=Kd.own_blk (Kd.R_ne HO192.out BK193.out (by decide));have hn194_1 : ad194.block ≠ gb193:=Kd.own_blk (Kd.R_ne HO192.out BK193.out (by decide));have hn194_2 : ad194.block ≠ gb193:=Kd.own_blk (Kd.R_ne HO192.out BK193.out (by decide));replace hx194_0:=(cell_far (p:=⟨gb193,0,none⟩) (by exact hn194_0) (.int .i64 0)).trans hx194_0;replace hx194_0:=(cell_far (p:=⟨gb193,1,none⟩) (by exact hn194_1) (.slice none 0 0)).trans hx194_0;replace hx194_0:=(cell_far (p:=⟨gb193,2,none⟩) (by exact hn194_2) (.int .i64 0)).trans hx194_0;clear hn194_0;clear hn194_1;clear hn194_2;replace p194:=eq_true p194;replace q194:=eq_true q194) | ((with_reducible refine gate_callee (f:=14) rfl ?_);refine goesL_ (some 30) rfl rfl Tryd.func14 (by kernel_rfl) rfl #[.string (rdOf ByteArray.empty t190 0), .string (⟨#[32,102,114,101,101]⟩ : ByteArray)] rfl (by (try simp only [List.map_toArray,List.map_cons,List.map_nil]);rfl) ?_;(with_reducible refine (strings_TrimSuffix.calls (rdOf ByteArray.empty t190 0) (⟨#[32,102,114,101,101]⟩ : ByteArray) t195 _ A9.out).mono ?_);rintro e w' ⟨rfl,⟨nd,rfl⟩⟩;refine ⟨_,rfl, ?_⟩) | ((with_reducible refine gate_callee (f:=13) rfl ?_);refine goesL_ (some 31) rfl rfl Tryd.func13 (by kernel_rfl) rfl #[.string t195] rfl (by (try simp only [List.map_toArray,List.map_cons,List.map_nil]);rfl) ?_;(with_reducible refine (impl_ParseInt.calls (hT:=?sgT) t195 t196 t197 _ A10.out).mono ?_);(case sgT => exact Go.Proofs.YthogpinmmddicaaDoorW.Met.Met.below hT (by repeat ((with_reducible first | exact HB.out | apply pw_below_drewN | refine below_set ?_ GE193.out))));rintro e w24 ⟨rfl,hb⟩;refine ⟨_,rfl, ?_⟩;have n0_:=Aside0.mk (Kd.R_below (by (with_reducible repeat (apply Kd.R_drewN));exact (Kd.R_mono (Kd.R_far (p:=⟨gb193,2,none⟩) (Kd.R_far (p:=⟨gb193,1,none⟩) (Kd.R_far (p:=⟨gb193,0,none⟩) (Kd.R_types HO192.out BK193.out (by decide)) (fun _ hk => hk.2) (.int .i64 0)) (fun _ hk => hk.2) (.slice none 0 0)) (fun _ hk => hk.2) (.int .i64 0)) (fun _ h_ => h_.1))) hb);have n1_:=Aside0.mk (blk_below (g:=gb189) (o := .cells #[.int .i64 0, .slice none 0 0, .int .i64 0] 24 (0,0)) (by (with_reducible repeat (refine blk_drewN ?_ _));refine blk_far ?_ NB189_193.out _;refine blk_far ?_ NB189_193.out _;refine blk_far ?_ NB189_193.out _;exact BK189.out) hb);have n2_:=Aside0.mk (blk_below (g:=gb193) (o := .cells #[.int .i64 0, .slice none 0 0, .int .i64 0] 24 (0,0)) (by (with_reducible repeat (refine blk_drewN ?_ _));refine blk_put (cs:=#[.int .i64 0, .slice none 0 0, .int .i64 0]) ?_ 2 _ rfl;refine blk_put (cs:=#[.int .i64 0, .slice none 0 0, .int .i64 0]) ?_ 1 _ rfl;refine blk_put (cs:=#[.int .i64 0, .slice none 0 0, .int .i64 0]) ?_ 0 _ rfl;exact BK193.out) hb);have n3_:=Aside0.mk (below_step (by repeat ((with_reducible first | exact HB.out | apply pw_below_drewN | refine below_set ?_ GE193.out))) hb);clear HO192;clear BK189;clear BK193;clear HB;have HO192:=n0_;have BK189:=n1_;have BK193:=n2_;have HB:=n3_;clear n0_ n1_ n2_ n3_;(try clear hb);have hcz25_0 : w24.cell? ⟨gb193,0,none⟩ = some (.int .i64 0):=(blk_cell BK193.out 0).trans rfl;have hcz25_1 : w24.cell? ⟨gb193,1,none⟩ = some (.slice none 0 0):=(blk_cell BK193.out 1).trans rfl;have hcz25_2 : w24.cell? ⟨gb193,2,none⟩ = some (.int .i64 0):=(blk_cell BK193.out 2).trans rfl;have hfz25_0:=blk_frozen BK193.out 0;have hfz25_1:=blk_frozen BK193.out 1;have hfz25_2:=blk_frozen BK193.out 2;have p198 : 0 ≤ ((ji11) : Int):=of_decide_eq_true (by (with_reducible assumption));have q198 : (ji11) < (t190.length : Int):=of_decide_eq_true (by (with_reducible assumption));obtain ⟨ad198,e198,hx198_0⟩ := Kd.at_string (Kd.R_reads' HO192.out).2.2 (ji11) p198 q198;obtain rfl : ad194 = ad198:=(by injection e198);have hn198_0 : ad194.block ≠ gb193:=Kd.own_blk (Kd.R_ne HO192.out BK193.out (by decide));replace hx198_0:=(cell_far (p:=⟨gb193,0,none⟩) (by (rw [add_block];exact hn198_0)) (.int .i64 t196)).trans hx198_0;clear hn198_0;replace p198:=eq_true p198;replace q198:=eq_true q198) | ((with_reducible refine gate_callee (f:=15) rfl ?_);refine goesL_ (some 40) rfl rfl Tryd.func15 (by kernel_rfl) rfl #[.string (rdOf ByteArray.empty t190 (ji11)), .string (⟨#[108,97,114,103,101,32]⟩ : ByteArray)] rfl (by (try simp only [List.map_toArray,List.map_cons,List.map_nil]);rfl) ?_;(with_reducible refine (strings_TrimPrefix.calls (rdOf ByteArray.empty t190 (ji11)) (⟨#[108,97,114,103,101,32]⟩ : ByteArray) t199 _ A14.out).mono ?_);rintro e w' ⟨rfl,⟨nd,rfl⟩⟩;refine ⟨_,rfl, ?_⟩) | ((with_reducible refine gate_callee (f:=13) rfl ?_);refine goesL_ (some 41) rfl rfl Tryd.func13 (by kernel_rfl) rfl #[.string t199] rfl (by (try simp only [List.map_toArray,List.map_cons,List.map_nil]);rfl) ?_;(with_reducible refine (impl_ParseInt.calls (hT:=?sgT) t199 t200 t201 _ A15.out).mono ?_);(case sgT => exact Go.Proofs.YthogpinmmddicaaDoorW.Met.Met.below hT (by repeat ((with_reducible first | exact HB.out | apply pw_below_drewN | refine below_set ?_ GE193.out))));rintro e w26 ⟨rfl,hb⟩;refine ⟨_,rfl, ?_⟩;have n0_:=Aside0.mk (Kd.R_below (by (with_reducible repeat (apply Kd.R_drewN));exact (Kd.R_mono (Kd.R_far (p:=⟨gb193,0,none⟩) (Kd.R_types HO192.out BK193.out (by decide)) (fun _ hk => hk.2) (.int .i64 t196)) (fun _ h_ => h_.1))) hb);have n1_:=Aside0.mk (blk_below (g:=gb189) (o := .cells #[.int .i64 0, .slice none 0 0, .int .i64 0] 24 (0,0)) (by (with_reducible repeat (refine blk_drewN ?_ _));refine blk_far ?_ NB189_193.out _;exact BK189.out) hb);have n2_:=Aside0.mk (blk_below (g:=gb193) (o := .cells #[.int .i64 t196, .slice none 0 0, .int .i64 0] 24 (0,0)) (by (with_reducible repeat (refine blk_drewN ?_ _));refine blk_put (cs:=#[.int .i64 0, .slice none 0 0, .int .i64 0]) ?_ 0 _ rfl;exact BK193.out) hb);have n3_:=Aside0.mk (below_step (by repeat ((with_reducible first | exact HB.out | apply pw_below_drewN | refine below_set ?_ GE193.out))) hb);clear HO192;clear BK189;clear BK193;clear HB;have HO192:=n0_;have BK189:=n1_;have BK193:=n2_;have HB:=n3_;clear n0_ n1_ n2_ n3_;(try clear hb);have hcz27_0 : w26.cell? ⟨gb193,0,none⟩ = some (.int .i64 t196):=(blk_cell BK193.out 0).trans rfl;have hcz27_1 : w26.cell? ⟨gb193,1,none⟩ = some (.slice none 0 0):=(blk_cell BK193.out 1).trans rfl;have hcz27_2 : w26.cell? ⟨gb193,2,none⟩ = some (.int .i64 0):=(blk_cell BK193.out 2).trans rfl;have hfz27_0:=blk_frozen BK193.out 0;have hfz27_1:=blk_frozen BK193.out 1;have hfz27_2:=blk_frozen BK193.out 2) | ((with_reducible refine gate_store (t:=3) (p:=44) rfl ?_);refine store_event (t:=3) (p:=44) (v:=?vo_w28) (w1:=(w26.setCell ⟨gb193,2,none⟩ (.int .i64 t200))) ?hg ?ho ?hn ?hr ?_;(case ho => rfl);(case hg => rfl);(case hn => rfl);(case hr => (go_simp;done));intro w28 hw;have n0_ : Aside0 (Kd.R Kd.string 9 w28 w.heap.size (fun _ => True) (.slice (some ad194) t190.length co20) t190):=⟨(by rw [hw];exact (by exact Kd.R_mono (Kd.R_far (p:=⟨gb193,2,none⟩) (Kd.R_types HO192.out BK193.out (by decide)) (fun _ hk => hk.2) (.int .i64 t200)) (fun _ hk => trivial)))⟩;have n1_ : Aside0 (w28.heap[gb189]? = some (.cells #[.int .i64 0, .slice none 0 0, .int .i64 0] 24 (0,0))):=⟨(by rw [hw];exact (by refine blk_far ?_ NB189_193.out _;exact BK189.out))⟩;have n2_ : Aside0 (w28.heap[gb193]? = some (.cells #[.int .i64 t196, .slice none 0 0, .int .i64 t200] 24 (0,0))):=⟨(by rw [hw];exact (by refine blk_put (cs:=#[.int .i64 t196, .slice none 0 0, .int .i64 0]) ?_ 2 _ rfl;exact BK193.out))⟩;have n3_ : Aside0 (Below w.heap.size w w28):=⟨(by rw [hw];exact (by repeat ((with_reducible first | exact HB.out | refine below_set ?_ GE193.out))))⟩;clear hw;clear HO192;clear BK189;clear BK193;clear HB;have HO192:=n0_;have BK189:=n1_;have BK193:=n2_;have HB:=n3_;clear n0_ n1_ n2_ n3_;have q29 : ((ji11) : Int) ≤ ((t190.length : Int) : Int):=of_decide_eq_true (by (with_reducible assumption));obtain ⟨i029,hi029,_,hsz29,_⟩ := info_parts info9;have hroom29 : t190.length ≤ co20:=(Kd.R_reads' HO192.out).2.1;have hC29 : Kd.C Kd.string _ (some ad194) t190.length t190:=(Kd.R_reads' HO192.out).2.2;have ql29 : (1 : Int) ≤ ((ji11) : Int):=of_decide_eq_true (by (with_reducible assumption));have hcut29:=cut_mid (P:=Tryd.prog) 30 9 .i64 .i64 Tryd.underlying30 hi029 1 hsz29 (some ad194) t190.length co20 1 (ji11) (by omega) ql29 q29 hroom29;have hr29:=Kd.C_mid (lo:=(1 : Int).toNat) (hi:=((ji11) : Int).toNat) (c:=co20) hC29 (by omega) (by omega) hroom29;obtain ⟨A29,hA29⟩ : ∃ A1,A1 = (if co20 = (1 : Int).toNat then (some ad194) else ((some ad194) : Option Addr).map (·.add ((1 : Int).toNat * 1))):=⟨_,rfl⟩;obtain ⟨c29,hc29⟩ : ∃ c1,c1 = co20 - (1 : Int).toNat:=⟨_,rfl⟩;have hy29 : y202.length = ((ji11) : Int).toNat - (1 : Int).toNat:=(by rw [Ny202.out,List.length_drop,List.length_take] <;> omega);rw [show ((t190).take ((ji11) : Int).toNat).drop (1 : Int).toNat = y202 from Ny202.out.symm] at hr29;replace hr29 : Kd.C Kd.string _ A29 y202.length y202:=(by rw [hA29];exact hr29);rw [← hy29,← hA29,← hc29] at hcut29;have HR205:=Aside0.mk hr29;have HC205:=Aside0.mk (show y202.length ≤ c29 from by rw [hy29,hc29];exact Nat.sub_le_sub_right (Nat.le_trans (by omega) hroom29) _);clear hr29 hC29 hroom29 hi029 hsz29 hc29;have KY29:=Aside0.mk hy29;have KA29:=Aside0.mk hA29;clear hy29 hA29;have KL29:=Aside0.mk (show ((ji11) : Int).toNat ≤ t190.length from by omega);have KM29:=Aside0.mk (show 1 ≤ ((ji11) : Int).toNat from by omega);replace q29:=eq_true q29))
       (skip)
       go_loopg [49] k (fun kq v49 w' => ∃ (x49_1 : Int) (x194001_1 : List (S35)) (u194001 : Value),v49 = .int .i64 x49_1 ∧ Aside0 (impl_ParseCharge.l0 kq a0 t190 y202 (y202.length : Int) x49_1 t196 x194001_1 t200 = some (r1,r2,r3,r4)) ∧ Aside0 (kq ≤ k) ∧ Aside0 (Kd.R Kd.string 9 w' w.heap.size (fun _ => True) (.slice (some ad194) t190.length co20) t190) ∧ Aside0 (Kd.R k35 35 w' w.heap.size (fun _ => True) u194001 x194001_1) ∧ Aside0 (w'.heap[gb189]? = some (.cells #[.int .i64 0,(.slice none 0 0), .int .i64 0] 24 (0,0))) ∧ Aside0 (w'.heap[gb193]? = some (.cells #[.int .i64 t196,u194001, .int .i64 t200] 24 (0,0))) ∧ Aside0 (Kd.C Kd.string w' A29 y202.length y202) ∧ Aside0 (Below w.heap.size w w'))
       case atStart => exact ⟨(0),(([] : List (S35))),(.slice none 0 0),(by rfl),H',⟨Nat.le_refl _⟩,⟨by exact HO192.out⟩,⟨by exact Kd.R_nil _ _ _ _ _⟩,⟨by exact BK189.out⟩,⟨by exact BK193.out⟩,⟨by exact HR205.out⟩,⟨by exact HB.out⟩⟩
       case round =>
        clear H'
        try clear c1
        try clear p1
        try clear q1
        try clear hx1
        try clear qi1
        try clear c2
        try clear p2
        try clear q2
        try clear c3
        try clear c3b0
        try clear c3b1
        try clear c5
        try clear p6
        try clear c8
        try clear c8b0
        try clear c8b1
        try clear c12
        try clear c12b0
        try clear c13
        try clear c13b0
        try clear c14
        try clear c15
        try clear c16
        try clear c16b0
        try clear c16b1
        try clear c17
        try clear c17b0
        try clear c17b1
        try clear p19
        try clear q19
        try clear hx19
        try clear qi19
        try clear c22
        try clear c29
        try clear q29
        try clear hcz23_0
        try clear hcz23_1
        try clear hcz23_2
        try clear hcz25_0
        try clear hcz25_1
        try clear hcz25_2
        try clear hcz27_0
        try clear hcz27_1
        try clear hcz27_2
        try clear hcz7_0
        try clear hcz7_1
        try clear hcz7_2
        try clear hfz23_0
        try clear hfz23_1
        try clear hfz23_2
        try clear hfz25_0
        try clear hfz25_1
        try clear hfz25_2
        try clear hfz27_0
        try clear hfz27_1
        try clear hfz27_2
        try clear hfz7_0
        try clear hfz7_1
        try clear hfz7_2
        try clear hx194_0
        try clear hx198_0
        try clear p194
        try clear p198
        try clear q194
        try clear q198
        try clear q29
        obtain ⟨x49_1,x194001_1,u194001,rfl,HA,HK1,HO_4,HO_194001,BK189,BK193,HR205,HB⟩ := hrel
        cases gk with
        | zero => exact absurd HA.out (by simp [impl_ParseCharge.l0])
        | succ k1 =>
         have H:=HA.out
         clear HA
         simp only [impl_ParseCharge.l0] at H
         by_cases c30 : x49_1 < (y202.length : Int)
         ·rw [if_pos c30] at H
          have c30b0 : decide (x49_1 < (y202.length : Int)) = true:=decide_eq_true c30
          clear c30
          by_cases c31 : 0 ≤ x49_1
          ·rw [if_pos c31] at H
           have c31b0 : decide (0 ≤ x49_1) = true:=decide_eq_true c31
           clear c31
           by_cases c32 : x49_1 < (y202.length : Int)
           ·rw [if_pos c32] at H
            have c32b0 : decide (x49_1 < (y202.length : Int)) = true:=decide_eq_true c32
            clear c32
            replace H:=Option.bind_eq_some_iff.mp H
            obtain ⟨⟨t207,t208,t209⟩,A330,H⟩ := H
            replace H : ((impl_ParseInt.f t207).bind fun bt210 => ((impl_ParseInt.f t208).bind fun bt212 => (if x194001_1.length < 8796093022208 then (impl_ParseCharge.l0 k1 a0 t190 y202 (y202.length : Int) (wrap64 (x49_1 + 1)) t196 (x194001_1 ++ [(⟨bt210.1,bt212.1⟩ : S35)]) t200) else (none)))) = some (r1,r2,r3,r4):=H
            have A33:=Aside0.mk A330
            clear A330
            replace H:=Option.bind_eq_some_iff.mp H
            obtain ⟨⟨t210,t211⟩,A340,H⟩ := H
            replace H : ((impl_ParseInt.f t208).bind fun bt212 => (if x194001_1.length < 8796093022208 then (impl_ParseCharge.l0 k1 a0 t190 y202 (y202.length : Int) (wrap64 (x49_1 + 1)) t196 (x194001_1 ++ [(⟨t210,bt212.1⟩ : S35)]) t200) else (none))) = some (r1,r2,r3,r4):=H
            have A34:=Aside0.mk A340
            clear A340
            replace H:=Option.bind_eq_some_iff.mp H
            obtain ⟨⟨t212,t213⟩,A350,H⟩ := H
            replace H : (if x194001_1.length < 8796093022208 then (impl_ParseCharge.l0 k1 a0 t190 y202 (y202.length : Int) (wrap64 (x49_1 + 1)) t196 (x194001_1 ++ [(⟨t210,t212⟩ : S35)]) t200) else (none)) = some (r1,r2,r3,r4):=H
            have A35:=Aside0.mk A350
            clear A350
            by_cases c36 : x194001_1.length < 8796093022208
            ·rw [if_pos c36] at H
             have LMc36:=Aside0.mk c36
             clear c36
             obtain ⟨y214,hy214⟩ : ∃ y_ : List (S35),y_ = (x194001_1 ++ [(⟨t210,t212⟩ : S35)]):=⟨_,rfl⟩
             replace H : (impl_ParseCharge.l0 k1 a0 t190 y202 (y202.length : Int) (wrap64 (x49_1 + 1)) t196 y214 t200) = some (r1,r2,r3,r4):=by (rw [hy214];with_reducible exact H)
             have Ny214:=Aside0.mk hy214
             clear hy214
             have H':=Aside0.mk H
             clear H
             have p206 : 0 ≤ (x49_1 : Int):=of_decide_eq_true (by (with_reducible assumption))
             have q206 : x49_1 < (y202.length : Int):=of_decide_eq_true (by (with_reducible assumption))
             obtain ⟨ad206,e206,hx206_0⟩ := Kd.at_string HR205.out x49_1 p206 q206
             cases e206
             try replace hx206_0:=(HB.out.cell (World.block_lt_of_cell? w _ hx206_0)).trans hx206_0
             replace p206:=eq_true p206
             replace q206:=eq_true q206
             go_wp2_with (first | ((with_reducible refine gate_callee (f:=16) rfl ?_);refine goesL_ (some 55) rfl rfl Tryd.func16 (by kernel_rfl) rfl #[.string (rdOf ByteArray.empty y202 x49_1), .string (⟨#[32,120,32]⟩ : ByteArray)] rfl (by (try simp only [List.map_toArray,List.map_cons,List.map_nil]);rfl) ?_;(with_reducible refine (strings_Cut.calls (hT:=?sgT) (rdOf ByteArray.empty y202 x49_1) (⟨#[32,120,32]⟩ : ByteArray) t207 t208 t209 _ A33.out).mono ?_);(case sgT => exact Go.Proofs.YthogpinmmddicaaDoorW.Met.Met.below hT (by exact HB.out));rintro e w' ⟨rfl,⟨nd,rfl⟩⟩;refine ⟨_,rfl, ?_⟩) | ((with_reducible refine gate_callee (f:=13) rfl ?_);refine goesL_ (some 61) rfl rfl Tryd.func13 (by kernel_rfl) rfl #[.string t207] rfl (by (try simp only [List.map_toArray,List.map_cons,List.map_nil]);rfl) ?_;(with_reducible refine (impl_ParseInt.calls (hT:=?sgT) t207 t210 t211 _ A34.out).mono ?_);(case sgT => exact Go.Proofs.YthogpinmmddicaaDoorW.Met.Met.below hT (by repeat ((with_reducible first | exact HB.out | apply pw_below_drewN))));rintro e w37 ⟨rfl,hb⟩;refine ⟨_,rfl, ?_⟩;have n0_:=Aside0.mk (Kd.R_below (by (with_reducible repeat (apply Kd.R_drewN));exact HO_4.out) hb);have n1_:=Aside0.mk (Kd.R_below (by (with_reducible repeat (apply Kd.R_drewN));exact HO_194001.out) hb);have n2_:=Aside0.mk (blk_below (g:=gb189) (o := .cells #[.int .i64 0, .slice none 0 0, .int .i64 0] 24 (0,0)) (by (with_reducible repeat (refine blk_drewN ?_ _));exact BK189.out) hb);have n3_:=Aside0.mk (blk_below (g:=gb193) (o := .cells #[.int .i64 t196,u194001, .int .i64 t200] 24 (0,0)) (by (with_reducible repeat (refine blk_drewN ?_ _));exact BK193.out) hb);have n4_:=Aside0.mk (Kd.C_below (by repeat (exact HR205.out)) hb);have n5_:=Aside0.mk (below_step (by repeat ((with_reducible first | exact HB.out | apply pw_below_drewN))) hb);clear HO_4;clear HO_194001;clear BK189;clear BK193;clear HR205;clear HB;have HO_4:=n0_;have HO_194001:=n1_;have BK189:=n2_;have BK193:=n3_;have HR205:=n4_;have HB:=n5_;clear n0_ n1_ n2_ n3_ n4_ n5_;(try clear hb)) | ((with_reducible refine gate_callee (f:=13) rfl ?_);refine goesL_ (some 66) rfl rfl Tryd.func13 (by kernel_rfl) rfl #[.string t208] rfl (by (try simp only [List.map_toArray,List.map_cons,List.map_nil]);rfl) ?_;(with_reducible refine (impl_ParseInt.calls (hT:=?sgT) t208 t212 t213 _ A35.out).mono ?_);(case sgT => exact Go.Proofs.YthogpinmmddicaaDoorW.Met.Met.below hT (by exact HB.out));rintro e w38 ⟨rfl,hb⟩;refine ⟨_,rfl, ?_⟩;have n0_:=Aside0.mk (Kd.R_below (by exact HO_4.out) hb);have n1_:=Aside0.mk (Kd.R_below (by exact HO_194001.out) hb);have n2_:=Aside0.mk (blk_below (g:=gb189) (o := .cells #[.int .i64 0, .slice none 0 0, .int .i64 0] 24 (0,0)) (by exact BK189.out) hb);have n3_:=Aside0.mk (blk_below (g:=gb193) (o := .cells #[.int .i64 t196,u194001, .int .i64 t200] 24 (0,0)) (by exact BK193.out) hb);have n4_:=Aside0.mk (Kd.C_below (by exact HR205.out) hb);have n5_:=Aside0.mk (below_step (by exact HB.out) hb);clear HO_4;clear HO_194001;clear BK189;clear BK193;clear HR205;clear HB;have HO_4:=n0_;have HO_194001:=n1_;have BK189:=n2_;have BK193:=n3_;have HR205:=n4_;have HB:=n5_;clear n0_ n1_ n2_ n3_ n4_ n5_;(try clear hb);have hnb39:=NB193_189.out;have hnc39:=NB189_193.out;have hcz40_0 : w38.cell? ⟨gb193,0,none⟩ = some (.int .i64 t196):=(blk_cell BK193.out 0).trans rfl;have hcz40_1 : w38.cell? ⟨gb193,1,none⟩ = some (u194001):=(blk_cell BK193.out 1).trans rfl;have hcz40_2 : w38.cell? ⟨gb193,2,none⟩ = some (.int .i64 t200):=(blk_cell BK193.out 2).trans rfl;have hfz40_0:=blk_frozen BK193.out 0;have hfz40_1:=blk_frozen BK193.out 1;have hfz40_2:=blk_frozen BK193.out 2) | ((with_reducible refine gate_builtin (b := .append) (xs:=#[.tmp 70, .tmp 74]) rfl ?_);at_builtin;refine Kd.R_append k35 (w0:=w) w.heap.size rfl (.tmp 70) (.tmp 74) 22 35 (.agg #[(.int .i64 0),(.int .i64 0)]) 16 rfl Tryd.underlying22 info35 rfl (by decide) (by omega) u194001 x194001_1 (⟨t210,t212⟩ : S35) [.int .i64 t210, .int .i64 t212] (fun _ => True) (fun _ => False) rfl rfl ?aP (fun _ hk => hk.elim) ?aF ?aO ?aB ?aS ?aL ?_;(case aP => exact k35_mkM _ _ _ (⟨t210,t212⟩ : S35));(case aB => exact (by exact HB.out));(case aF => exact (fun _ _ => trivial));(case aO => exact (by exact HO_194001.out));(case aS => exact (below_size (by exact HB.out)));(case aL => have:=LMc36.out;omega);intro v215 w41 ho hb hg hat;rw [← Ny214.out] at ho;have n0_:=Aside0.mk (Kd.R_over' (by exact HO_4.out) (Kd.R_typed (by exact HO_194001.out)) (by decide) hg);have n1_:=Aside0.mk (blk_grown (g:=gb189) (o := .cells #[.int .i64 0, .slice none 0 0, .int .i64 0] 24 (0,0)) (by exact BK189.out) hg (Kd.R_ne HO_194001.out BK189.out (by decide)));have n2_:=Aside0.mk (blk_grown (g:=gb193) (o := .cells #[.int .i64 t196,u194001, .int .i64 t200] 24 (0,0)) (by exact BK193.out) hg (Kd.R_ne HO_194001.out BK193.out (by decide)));have n3_:=Aside0.mk (hb);have n4_:=Aside0.mk ((show Kd.C Kd.string w41 (some ad206) y202.length y202 from by rw [Ny202.out,KA29.out];exact Kd.C_mid (lo:=1) (hi:=((ji11) : Int).toNat) (c:=co20) ((Kd.R_reads' (Kd.R_over' (by exact HO_4.out) (Kd.R_typed (by exact HO_194001.out)) (by decide) hg)).2.2) KM29.out KL29.out ((Kd.R_reads' (Kd.R_over' (by exact HO_4.out) (Kd.R_typed (by exact HO_194001.out)) (by decide) hg)).2.1)));have n5_:=Aside0.mk (ho);clear HO_4;clear BK189;clear BK193;clear HB;clear HR205;clear HO_194001;have HO_4:=n0_;have BK189:=n1_;have BK193:=n2_;have HB:=n3_;have HR205:=n4_;have HO216:=n5_;clear n0_ n1_ n2_ n3_ n4_ n5_;clear ho hb hg hat;obtain ⟨Ao42,co42,eo42⟩ := Kd.R_slice HO216.out;subst eo42;have hcz43_0 : w41.cell? ⟨gb193,0,none⟩ = some (.int .i64 t196):=(blk_cell BK193.out 0).trans rfl;have hcz43_1 : w41.cell? ⟨gb193,1,none⟩ = some (u194001):=(blk_cell BK193.out 1).trans rfl;have hcz43_2 : w41.cell? ⟨gb193,2,none⟩ = some (.int .i64 t200):=(blk_cell BK193.out 2).trans rfl;have hfz43_0:=blk_frozen BK193.out 0;have hfz43_1:=blk_frozen BK193.out 1;have hfz43_2:=blk_frozen BK193.out 2))
             go_roundg k1
             case measure => have:=HK1.out;omega
             case rel => exact ⟨(wrap64 (x49_1 + 1)),(y214),(.slice Ao42 y214.length co42),(by rfl),H',⟨by have:=HK1.out;omega⟩,⟨by exact Kd.R_mono (Kd.R_far (p:=⟨gb193,1,none⟩) (Kd.R_types HO_4.out BK193.out (by decide)) (fun _ hk => hk.2) (.slice Ao42 y214.length co42)) (fun _ hk => trivial)⟩,⟨by exact Kd.R_mono (Kd.R_far (p:=⟨gb193,1,none⟩) (Kd.R_types HO216.out BK193.out (by decide)) (fun _ hk => hk.2) (.slice Ao42 y214.length co42)) (fun _ hk => trivial)⟩,⟨by refine blk_far ?_ NB189_193.out _;exact BK189.out⟩,⟨by refine blk_put (cs:=#[.int .i64 t196,u194001, .int .i64 t200]) ?_ 1 _ rfl;exact BK193.out⟩,⟨by rw [Ny202.out,KA29.out];exact Kd.C_mid (lo:=1) (hi:=((ji11) : Int).toNat) (c:=co20) ((Kd.R_reads' (show Kd.R Kd.string 9 (w41.setCell ⟨gb193,1,none⟩ (.slice Ao42 y214.length co42)) _ _ _ _ from by exact (Kd.R_mono (Kd.R_far (p:=⟨gb193,1,none⟩) (Kd.R_types HO_4.out BK193.out (by decide)) (fun _ hk => hk.2) (.slice Ao42 y214.length co42)) (fun _ h_ => h_.1)))).2.2) KM29.out KL29.out ((Kd.R_reads' (show Kd.R Kd.string 9 (w41.setCell ⟨gb193,1,none⟩ (.slice Ao42 y214.length co42)) _ _ _ _ from by exact (Kd.R_mono (Kd.R_far (p:=⟨gb193,1,none⟩) (Kd.R_types HO_4.out BK193.out (by decide)) (fun _ hk => hk.2) (.slice Ao42 y214.length co42)) (fun _ h_ => h_.1)))).2.1)⟩,⟨by repeat ((with_reducible first | exact HB.out | refine below_set ?_ GE193.out))⟩⟩
            ·rw [if_neg c36] at H
             exact absurd H (by simp)
           ·rw [if_neg c32] at H
            exact absurd H (by simp)
          ·rw [if_neg c31] at H
           exact absurd H (by simp)
         ·rw [if_neg c30] at H
          have c30b0 : decide (x49_1 < (y202.length : Int)) = false:=decide_eq_false c30
          clear c30
          replace H:=Option.bind_eq_some_iff.mp H
          obtain ⟨t217,A440,H⟩ := H
          replace H : (if t217 = true then ((impl_chargeText.f k1 t196 x194001_1 t200).bind fun t218 => (if t218.toList = a0.toList then (some (t196,x194001_1,t200,true)) else (some (0,([] : List (S35)),0,false)))) else (some (0,([] : List (S35)),0,false))) = some (r1,r2,r3,r4):=H
          have A44:=Aside0.mk A440
          clear A440
          by_cases c45 : t217 = true
          ·subst c45
           have H1 : ((impl_chargeText.f k1 t196 x194001_1 t200).bind fun t218 => (if t218.toList = a0.toList then (some (t196,x194001_1,t200,true)) else (some (0,([] : List (S35)),0,false)))) = some (r1,r2,r3,r4):=by rw [if_pos rfl] at H;exact H
           clear H
           have H:=H1
           clear H1
           replace H:=Option.bind_eq_some_iff.mp H
           obtain ⟨t218,A460,H⟩ := H
           replace H : (if t218.toList = a0.toList then (some (t196,x194001_1,t200,true)) else (some (0,([] : List (S35)),0,false))) = some (r1,r2,r3,r4):=H
           have A46:=Aside0.mk A460
           clear A460
           by_cases c47 : t218.toList = a0.toList
           ·rw [if_pos c47] at H
            have c47b0 : (t218.toList == a0.toList) = true:=beq_iff_eq.mpr c47
            have c47b1 : (t218.toList != a0.toList) = false:=bne_eq_false_iff_eq.mpr c47
            clear c47
            simp only [Option.some.injEq,Prod.mk.injEq] at H
            obtain ⟨rfl,rfl,rfl,rfl⟩ := H
            have hnb48:=NB193_189.out
            have hnc48:=NB189_193.out
            have hcz49_0 : wr.cell? ⟨gb193,0,none⟩ = some (.int .i64 t196):=(blk_cell BK193.out 0).trans rfl
            have hcz49_1 : wr.cell? ⟨gb193,1,none⟩ = some (u194001):=(blk_cell BK193.out 1).trans rfl
            have hcz49_2 : wr.cell? ⟨gb193,2,none⟩ = some (.int .i64 t200):=(blk_cell BK193.out 2).trans rfl
            have hfz49_0:=blk_frozen BK193.out 0
            have hfz49_1:=blk_frozen BK193.out 1
            have hfz49_2:=blk_frozen BK193.out 2
            obtain ⟨Ao50,co50,eo50⟩ := Kd.R_slice HO_194001.out
            subst eo50
            go_wp2_with (first | ((with_reducible refine gate_callee (f:=17) rfl ?_);refine goesL_ (some 79) rfl rfl Tryd.func17 (by kernel_rfl) rfl #[.agg #[.int .i64 t196, .slice Ao50 x194001_1.length co50, .int .i64 t200]] rfl (by (try simp only [List.map_toArray,List.map_cons,List.map_nil]);rfl) ?_;(with_reducible refine (impl_IsValidCharge.calls k1 t196 _ _ x194001_1 t200 true _ ?side1 ?side2 A44.out).mono ?_);(case side1 => repeat (exact (Kd.R_reads' HO_194001.out).2.2));(case side2 => exact (Kd.R_reads' HO_194001.out).2.1);rintro e w51 ⟨rfl,hb⟩;refine ⟨_,rfl, ?_⟩;have n0_:=Aside0.mk (Kd.R_below (by exact HO_4.out) hb);have n1_:=Aside0.mk (Kd.R_below (by exact HO_194001.out) hb);have n2_:=Aside0.mk (blk_below (g:=gb189) (o := .cells #[.int .i64 0, .slice none 0 0, .int .i64 0] 24 (0,0)) (by exact BK189.out) hb);have n3_:=Aside0.mk (blk_below (g:=gb193) (o := .cells #[.int .i64 t196, .slice Ao50 x194001_1.length co50, .int .i64 t200] 24 (0,0)) (by exact BK193.out) hb);have n4_:=Aside0.mk (Kd.C_below (by exact HR205.out) hb);have n5_:=Aside0.mk (below_step (by exact HB.out) hb);clear HO_4;clear HO_194001;clear BK189;clear BK193;clear HR205;clear HB;have HO_4:=n0_;have HO_194001:=n1_;have BK189:=n2_;have BK193:=n3_;have HR205:=n4_;have HB:=n5_;clear n0_ n1_ n2_ n3_ n4_ n5_;(try clear hb);have hcz52_0 : w51.cell? ⟨gb193,0,none⟩ = some (.int .i64 t196):=(blk_cell BK193.out 0).trans rfl;have hcz52_1 : w51.cell? ⟨gb193,1,none⟩ = some (.slice Ao50 x194001_1.length co50):=(blk_cell BK193.out 1).trans rfl;have hcz52_2 : w51.cell? ⟨gb193,2,none⟩ = some (.int .i64 t200):=(blk_cell BK193.out 2).trans rfl;have hfz52_0:=blk_frozen BK193.out 0;have hfz52_1:=blk_frozen BK193.out 1;have hfz52_2:=blk_frozen BK193.out 2) | (go_at_call 18;(with_reducible refine (impl_chargeText.calls (hT:=?sgT) k1 t196 _ _ x194001_1 t200 t218 _ ?side1 ?side2 A46.out).mono ?_);(case sgT => exact Go.Proofs.YthogpinmmddicaaDoorW.Met.Met.below hT (by exact HB.out));(case side1 => repeat (exact (Kd.R_reads' HO_194001.out).2.2));(case side2 => exact (Kd.R_reads' HO_194001.out).2.1);rintro e w53 ⟨rfl,hb⟩;have n0_:=Aside0.mk (Kd.R_below (by exact HO_4.out) hb);have n1_:=Aside0.mk (Kd.R_below (by exact HO_194001.out) hb);have n2_:=Aside0.mk (blk_below (g:=gb189) (o := .cells #[.int .i64 0, .slice none 0 0, .int .i64 0] 24 (0,0)) (by exact BK189.out) hb);have n3_:=Aside0.mk (blk_below (g:=gb193) (o := .cells #[.int .i64 t196, .slice Ao50 x194001_1.length co50, .int .i64 t200] 24 (0,0)) (by exact BK193.out) hb);have n4_:=Aside0.mk (Kd.C_below (by exact HR205.out) hb);have n5_:=Aside0.mk (below_step (by exact HB.out) hb);clear HO_4;clear HO_194001;clear BK189;clear BK193;clear HR205;clear HB;have HO_4:=n0_;have HO_194001:=n1_;have BK189:=n2_;have BK193:=n3_;have HR205:=n4_;have HB:=n5_;clear n0_ n1_ n2_ n3_ n4_ n5_;(try clear hb);have hcz54_0 : w53.cell? ⟨gb193,0,none⟩ = some (.int .i64 t196):=(blk_cell BK193.out 0).trans rfl;have hcz54_1 : w53.cell? ⟨gb193,1,none⟩ = some (.slice Ao50 x194001_1.length co50):=(blk_cell BK193.out 1).trans rfl;have hcz54_2 : w53.cell? ⟨gb193,2,none⟩ = some (.int .i64 t200):=(blk_cell BK193.out 2).trans rfl;have hfz54_0:=blk_frozen BK193.out 0;have hfz54_1:=blk_frozen BK193.out 1;have hfz54_2:=blk_frozen BK193.out 2;have hcz55_0 : w53.cell? ⟨gb189,0,none⟩ = some (.int .i64 0):=(blk_cell BK189.out 0).trans rfl;have hcz55_1 : w53.cell? ⟨gb189,1,none⟩ = some (.slice none 0 0):=(blk_cell BK189.out 1).trans rfl;have hcz55_2 : w53.cell? ⟨gb189,2,none⟩ = some (.int .i64 0):=(blk_cell BK189.out 2).trans rfl;have hfz55_0:=blk_frozen BK189.out 0;have hfz55_1:=blk_frozen BK189.out 1;have hfz55_2:=blk_frozen BK189.out 2))
            refine bodyPost_ret (results_ct rfl _ _ gb189 24 #[.int .i64 t196, .slice Ao50 x194001_1.length co50, .int .i64 t200] (0,0) _ rfl (by refine blk_put (cs:=#[.int .i64 t196, .slice Ao50 x194001_1.length co50, .int .i64 0]) ?_ 2 _ rfl;refine blk_put (cs:=#[.int .i64 t196, .slice none 0 0, .int .i64 0]) ?_ 1 _ rfl;refine blk_put (cs:=#[.int .i64 0, .slice none 0 0, .int .i64 0]) ?_ 0 _ rfl;exact BK189.out) Tryd.underlying24 rfl (by kernel_rfl)) rfl ?_
            exact ⟨_,by rfl,by exact Kd.R_mono (Kd.R_far (p:=⟨gb189,2,none⟩) (Kd.R_far (p:=⟨gb189,1,none⟩) (Kd.R_far (p:=⟨gb189,0,none⟩) (Kd.R_types HO_194001.out BK189.out (by decide)) (fun _ hk => hk.2) (.int .i64 t196)) (fun _ hk => hk.2) (.slice Ao50 x194001_1.length co50)) (fun _ hk => hk.2) (.int .i64 t200)) (fun _ hk => trivial),by repeat ((with_reducible first | exact HB.out | refine below_set ?_ GE189.out))⟩
           ·rw [if_neg c47] at H
            have c47b0 : (t218.toList == a0.toList) = false:=beq_eq_false_iff_ne.mpr c47
            have c47b1 : (t218.toList != a0.toList) = true:=bne_iff_ne.mpr c47
            simp only [Option.some.injEq,Prod.mk.injEq] at H
            obtain ⟨rfl,rfl,rfl,rfl⟩ := H
            have hnb56:=NB193_189.out
            have hnc56:=NB189_193.out
            have hcz57_0 : wr.cell? ⟨gb193,0,none⟩ = some (.int .i64 t196):=(blk_cell BK193.out 0).trans rfl
            have hcz57_1 : wr.cell? ⟨gb193,1,none⟩ = some (u194001):=(blk_cell BK193.out 1).trans rfl
            have hcz57_2 : wr.cell? ⟨gb193,2,none⟩ = some (.int .i64 t200):=(blk_cell BK193.out 2).trans rfl
            have hfz57_0:=blk_frozen BK193.out 0
            have hfz57_1:=blk_frozen BK193.out 1
            have hfz57_2:=blk_frozen BK193.out 2
            obtain ⟨Ao58,co58,eo58⟩ := Kd.R_slice HO_194001.out
            subst eo58
            go_wp2_with (first | ((with_reducible refine gate_callee (f:=17) rfl ?_);refine goesL_ (some 79) rfl rfl Tryd.func17 (by kernel_rfl) rfl #[.agg #[.int .i64 t196, .slice Ao58 x194001_1.length co58, .int .i64 t200]] rfl (by (try simp only [List.map_toArray,List.map_cons,List.map_nil]);rfl) ?_;(with_reducible refine (impl_IsValidCharge.calls k1 t196 _ _ x194001_1 t200 true _ ?side1 ?side2 A44.out).mono ?_);(case side1 => repeat (exact (Kd.R_reads' HO_194001.out).2.2));(case side2 => exact (Kd.R_reads' HO_194001.out).2.1);rintro e w59 ⟨rfl,hb⟩;refine ⟨_,rfl, ?_⟩;have n0_:=Aside0.mk (Kd.R_below (by exact HO_4.out) hb);have n1_:=Aside0.mk (Kd.R_below (by exact HO_194001.out) hb);have n2_:=Aside0.mk (blk_below (g:=gb189) (o := .cells #[.int .i64 0, .slice none 0 0, .int .i64 0] 24 (0,0)) (by exact BK189.out) hb);have n3_:=Aside0.mk (blk_below (g:=gb193) (o := .cells #[.int .i64 t196, .slice Ao58 x194001_1.length co58, .int .i64 t200] 24 (0,0)) (by exact BK193.out) hb);have n4_:=Aside0.mk (Kd.C_below (by exact HR205.out) hb);have n5_:=Aside0.mk (below_step (by exact HB.out) hb);clear HO_4;clear HO_194001;clear BK189;clear BK193;clear HR205;clear HB;have HO_4:=n0_;have HO_194001:=n1_;have BK189:=n2_;have BK193:=n3_;have HR205:=n4_;have HB:=n5_;clear n0_ n1_ n2_ n3_ n4_ n5_;(try clear hb);have hcz60_0 : w59.cell? ⟨gb193,0,none⟩ = some (.int .i64 t196):=(blk_cell BK193.out 0).trans rfl;have hcz60_1 : w59.cell? ⟨gb193,1,none⟩ = some (.slice Ao58 x194001_1.length co58):=(blk_cell BK193.out 1).trans rfl;have hcz60_2 : w59.cell? ⟨gb193,2,none⟩ = some (.int .i64 t200):=(blk_cell BK193.out 2).trans rfl;have hfz60_0:=blk_frozen BK193.out 0;have hfz60_1:=blk_frozen BK193.out 1;have hfz60_2:=blk_frozen BK193.out 2) | (go_at_call 18;(with_reducible refine (impl_chargeText.calls (hT:=?sgT) k1 t196 _ _ x194001_1 t200 t218 _ ?side1 ?side2 A46.out).mono ?_);(case sgT => exact Go.Proofs.YthogpinmmddicaaDoorW.Met.Met.below hT (by exact HB.out));(case side1 => repeat (exact (Kd.R_reads' HO_194001.out).2.2));(case side2 => exact (Kd.R_reads' HO_194001.out).2.1);rintro e w61 ⟨rfl,hb⟩;have n0_:=Aside0.mk (Kd.R_below (by exact HO_4.out) hb);have n1_:=Aside0.mk (Kd.R_below (by exact HO_194001.out) hb);have n2_:=Aside0.mk (blk_below (g:=gb189) (o := .cells #[.int .i64 0, .slice none 0 0, .int .i64 0] 24 (0,0)) (by exact BK189.out) hb);have n3_:=Aside0.mk (blk_below (g:=gb193) (o := .cells #[.int .i64 t196, .slice Ao58 x194001_1.length co58, .int .i64 t200] 24 (0,0)) (by exact BK193.out) hb);have n4_:=Aside0.mk (Kd.C_below (by exact HR205.out) hb);have n5_:=Aside0.mk (below_step (by exact HB.out) hb);clear HO_4;clear HO_194001;clear BK189;clear BK193;clear HR205;clear HB;have HO_4:=n0_;have HO_194001:=n1_;have BK189:=n2_;have BK193:=n3_;have HR205:=n4_;have HB:=n5_;clear n0_ n1_ n2_ n3_ n4_ n5_;(try clear hb);have hcz62_0 : w61.cell? ⟨gb189,0,none⟩ = some (.int .i64 0):=(blk_cell BK189.out 0).trans rfl;have hcz62_1 : w61.cell? ⟨gb189,1,none⟩ = some (.slice none 0 0):=(blk_cell BK189.out 1).trans rfl;have hcz62_2 : w61.cell? ⟨gb189,2,none⟩ = some (.int .i64 0):=(blk_cell BK189.out 2).trans rfl;have hfz62_0:=blk_frozen BK189.out 0;have hfz62_1:=blk_frozen BK189.out 1;have hfz62_2:=blk_frozen BK189.out 2))
            refine bodyPost_ret (results_ct rfl _ _ gb189 24 #[.int .i64 0, .slice none 0 0, .int .i64 0] (0,0) _ rfl (by refine blk_put (cs:=#[.int .i64 0, .slice none 0 0, .int .i64 0]) ?_ 2 _ rfl;refine blk_put (cs:=#[.int .i64 0, .slice none 0 0, .int .i64 0]) ?_ 1 _ rfl;refine blk_put (cs:=#[.int .i64 0, .slice none 0 0, .int .i64 0]) ?_ 0 _ rfl;exact BK189.out) Tryd.underlying24 rfl (by kernel_rfl)) rfl ?_
            exact ⟨_,by rfl,by exact Kd.R_nil _ _ _ _ _,by repeat ((with_reducible first | exact HB.out | refine below_set ?_ GE189.out))⟩
          ·replace c45:=Bool.eq_false_iff.mpr c45
           subst c45
           have H1 : (some (0,([] : List (S35)),0,false)) = some (r1,r2,r3,r4):=by rw [if_neg (show ¬ (false = true) by decide)] at H;exact H
           clear H
           have H:=H1
           clear H1
           simp only [Option.some.injEq,Prod.mk.injEq] at H
           obtain ⟨rfl,rfl,rfl,rfl⟩ := H
           have hnb63:=NB193_189.out
           have hnc63:=NB189_193.out
           have hcz64_0 : wr.cell? ⟨gb193,0,none⟩ = some (.int .i64 t196):=(blk_cell BK193.out 0).trans rfl
           have hcz64_1 : wr.cell? ⟨gb193,1,none⟩ = some (u194001):=(blk_cell BK193.out 1).trans rfl
           have hcz64_2 : wr.cell? ⟨gb193,2,none⟩ = some (.int .i64 t200):=(blk_cell BK193.out 2).trans rfl
           have hfz64_0:=blk_frozen BK193.out 0
           have hfz64_1:=blk_frozen BK193.out 1
           have hfz64_2:=blk_frozen BK193.out 2
           obtain ⟨Ao65,co65,eo65⟩ := Kd.R_slice HO_194001.out
           subst eo65
           go_wp2_with (((with_reducible refine gate_callee (f:=17) rfl ?_);refine goesL_ (some 79) rfl rfl Tryd.func17 (by kernel_rfl) rfl #[.agg #[.int .i64 t196, .slice Ao65 x194001_1.length co65, .int .i64 t200]] rfl (by (try simp only [List.map_toArray,List.map_cons,List.map_nil]);rfl) ?_;(with_reducible refine (impl_IsValidCharge.calls k1 t196 _ _ x194001_1 t200 false _ ?side1 ?side2 A44.out).mono ?_);(case side1 => repeat (exact (Kd.R_reads' HO_194001.out).2.2));(case side2 => exact (Kd.R_reads' HO_194001.out).2.1);rintro e w66 ⟨rfl,hb⟩;refine ⟨_,rfl, ?_⟩;have n0_:=Aside0.mk (Kd.R_below (by exact HO_4.out) hb);have n1_:=Aside0.mk (Kd.R_below (by exact HO_194001.out) hb);have n2_:=Aside0.mk (blk_below (g:=gb189) (o := .cells #[.int .i64 0, .slice none 0 0, .int .i64 0] 24 (0,0)) (by exact BK189.out) hb);have n3_:=Aside0.mk (blk_below (g:=gb193) (o := .cells #[.int .i64 t196, .slice Ao65 x194001_1.length co65, .int .i64 t200] 24 (0,0)) (by exact BK193.out) hb);have n4_:=Aside0.mk (Kd.C_below (by exact HR205.out) hb);have n5_:=Aside0.mk (below_step (by exact HB.out) hb);clear HO_4;clear HO_194001;clear BK189;clear BK193;clear HR205;clear HB;have HO_4:=n0_;have HO_194001:=n1_;have BK189:=n2_;have BK193:=n3_;have HR205:=n4_;have HB:=n5_;clear n0_ n1_ n2_ n3_ n4_ n5_;(try clear hb);have hcz67_0 : w66.cell? ⟨gb189,0,none⟩ = some (.int .i64 0):=(blk_cell BK189.out 0).trans rfl;have hcz67_1 : w66.cell? ⟨gb189,1,none⟩ = some (.slice none 0 0):=(blk_cell BK189.out 1).trans rfl;have hcz67_2 : w66.cell? ⟨gb189,2,none⟩ = some (.int .i64 0):=(blk_cell BK189.out 2).trans rfl;have hfz67_0:=blk_frozen BK189.out 0;have hfz67_1:=blk_frozen BK189.out 1;have hfz67_2:=blk_frozen BK189.out 2))
           refine bodyPost_ret (results_ct rfl _ _ gb189 24 #[.int .i64 0, .slice none 0 0, .int .i64 0] (0,0) _ rfl (by refine blk_put (cs:=#[.int .i64 0, .slice none 0 0, .int .i64 0]) ?_ 2 _ rfl;refine blk_put (cs:=#[.int .i64 0, .slice none 0 0, .int .i64 0]) ?_ 1 _ rfl;refine blk_put (cs:=#[.int .i64 0, .slice none 0 0, .int .i64 0]) ?_ 0 _ rfl;exact BK189.out) Tryd.underlying24 rfl (by kernel_rfl)) rfl ?_
           exact ⟨_,by rfl,by exact Kd.R_nil _ _ _ _ _,by repeat ((with_reducible first | exact HB.out | refine below_set ?_ GE189.out))⟩
      ·rw [if_neg c17] at H
       exact absurd H (by simp)
     ·rw [if_neg c16] at H
      exact absurd H (by simp)
    ·rw [if_neg c13] at H
     exact absurd H (by simp)
   ·rw [if_neg c12] at H
    exact absurd H (by simp)
  ·rw [if_neg c8] at H
   exact absurd H (by simp)

/-! ### laws_eqRateStep: function 35 -/
def laws_eqRateStep.f (a0_0 : Int) (a0_1 : Int) (a1_0 : Int) (a1_1 : Int) : Option (Bool):=if a0_0 = a1_0 then (if a0_1 = a1_1 then (some true) else (some false)) else (some false)
set_option maxHeartbeats 8000000 in
set_option maxRecDepth 100000 in
theorem laws_eqRateStep.calls (a0_0 : Int) (a0_1 : Int) (a1_0 : Int) (a1_1 : Int) (r : Bool) (w : World) (h : laws_eqRateStep.f a0_0 a0_1 a1_0 a1_1 = some r) :
  Calls Tryd.prog 35 #[.agg #[.int .i64 a0_0, .int .i64 a0_1], .agg #[.int .i64 a1_0, .int .i64 a1_1]] w fun e w' => e = .returned (.bool r) ∧ Below w.heap.size w w':=by
 have hu35:=Tryd.underlying35
 have HB:=Aside0.mk (Below.refl w.heap.size w)
 have H : (if a0_0 = a1_0 then (if a0_1 = a1_1 then (some true) else (some false)) else (some false)) = some r:=h
 clear h
 by_cases c3 : a0_0 = a1_0
 ·rw [if_pos c3] at H
  have c3b0 : (a0_0 == a1_0) = true:=beq_iff_eq.mpr c3
  have c3b1 : (a0_0 != a1_0) = false:=bne_eq_false_iff_eq.mpr c3
  clear c3
  by_cases c4 : a0_1 = a1_1
  ·rw [if_pos c4] at H
   have c4b0 : (a0_1 == a1_1) = true:=beq_iff_eq.mpr c4
   have c4b1 : (a0_1 != a1_1) = false:=bne_eq_false_iff_eq.mpr c4
   clear c4
   obtain rfl:=Option.some.inj H
   go_enter Tryd.func35,Tryd.ntmps35
   go_wp2_with (first | ((with_reducible refine gate_dst (N:=2) rfl ?_);refine box_event ?hg (N:=2) ?hd (cs:=#[.int .i64 a0_0, .int .i64 a0_1]) (t:=35) ?hr ?_;(case hd => rfl);(case hg => rfl);(case hr => (go_simp;done));intro gb219 hg w5 hbox hb;have n0_:=Aside0.mk (below_step (by exact HB.out) hb);have n1_:=Aside0.mk (hbox);have n2_:=Aside0.mk ((by rw [hg];exact (below_size (by exact HB.out)) : w.heap.size ≤ gb219));have n3_:=Aside0.mk ((by rw [hg];exact (below_size (by exact HB.out)) : w.heap.size ≤ gb219));clear HB;have HB:=n0_;have BK219:=n1_;have GW219:=n2_;have GE219:=n3_;clear n0_ n1_ n2_ n3_;clear hb hbox hg) | ((with_reducible refine gate_dst (N:=3) rfl ?_);refine box_event ?hg (N:=3) ?hd (cs:=#[.int .i64 a1_0, .int .i64 a1_1]) (t:=35) ?hr ?_;(case hd => rfl);(case hg => rfl);(case hr => (go_simp;done));intro gb220 hg w6 hbox hb;have n0_:=Aside0.mk (blk_below (g:=gb219) (o := .cells #[.int .i64 a0_0, .int .i64 a0_1] 35 (0,0)) (by exact BK219.out) hb);have n1_:=Aside0.mk (below_step (by exact HB.out) hb);have n2_:=Aside0.mk (hbox);have n3_:=Aside0.mk ((by rw [hg];exact (below_size (by exact HB.out)) : w.heap.size ≤ gb220));have n4_:=Aside0.mk ((by rw [hg];exact (below_size (by exact HB.out)) : w.heap.size ≤ gb220));have n5_:=Aside0.mk ((by rw [hg];exact Nat.ne_of_lt (blk_lt (g:=gb219) (o := .cells #[.int .i64 a0_0, .int .i64 a0_1] 35 (0,0)) (by exact BK219.out)) : gb219 ≠ gb220));have n6_:=Aside0.mk ((by rw [hg];exact Nat.ne_of_gt (blk_lt (g:=gb219) (o := .cells #[.int .i64 a0_0, .int .i64 a0_1] 35 (0,0)) (by exact BK219.out)) : gb220 ≠ gb219));clear BK219;clear HB;have BK219:=n0_;have HB:=n1_;have BK220:=n2_;have GW220:=n3_;have GE220:=n4_;have NB219_220:=n5_;have NB220_219:=n6_;clear n0_ n1_ n2_ n3_ n4_ n5_ n6_;clear hb hbox hg;have hnb7:=NB219_220.out;have hnc7:=NB220_219.out;have hcz8_0 : w6.cell? ⟨gb219,0,none⟩ = some (.int .i64 a0_0):=(blk_cell BK219.out 0).trans rfl;have hcz8_1 : w6.cell? ⟨gb219,1,none⟩ = some (.int .i64 a0_1):=(blk_cell BK219.out 1).trans rfl;have hfz8_0:=blk_frozen BK219.out 0;have hfz8_1:=blk_frozen BK219.out 1;have hcz9_0 : w6.cell? ⟨gb220,0,none⟩ = some (.int .i64 a1_0):=(blk_cell BK220.out 0).trans rfl;have hcz9_1 : w6.cell? ⟨gb220,1,none⟩ = some (.int .i64 a1_1):=(blk_cell BK220.out 1).trans rfl;have hfz9_0:=blk_frozen BK220.out 0;have hfz9_1:=blk_frozen BK220.out 1))
   go_ret
   exact ⟨by rfl,by exact HB.out⟩
  ·rw [if_neg c4] at H
   have c4b0 : (a0_1 == a1_1) = false:=beq_eq_false_iff_ne.mpr c4
   have c4b1 : (a0_1 != a1_1) = true:=bne_iff_ne.mpr c4
   obtain rfl:=Option.some.inj H
   go_enter Tryd.func35,Tryd.ntmps35
   go_wp2_with (first | ((with_reducible refine gate_dst (N:=2) rfl ?_);refine box_event ?hg (N:=2) ?hd (cs:=#[.int .i64 a0_0, .int .i64 a0_1]) (t:=35) ?hr ?_;(case hd => rfl);(case hg => rfl);(case hr => (go_simp;done));intro gb219 hg w10 hbox hb;have n0_:=Aside0.mk (below_step (by exact HB.out) hb);have n1_:=Aside0.mk (hbox);have n2_:=Aside0.mk ((by rw [hg];exact (below_size (by exact HB.out)) : w.heap.size ≤ gb219));have n3_:=Aside0.mk ((by rw [hg];exact (below_size (by exact HB.out)) : w.heap.size ≤ gb219));clear HB;have HB:=n0_;have BK219:=n1_;have GW219:=n2_;have GE219:=n3_;clear n0_ n1_ n2_ n3_;clear hb hbox hg) | ((with_reducible refine gate_dst (N:=3) rfl ?_);refine box_event ?hg (N:=3) ?hd (cs:=#[.int .i64 a1_0, .int .i64 a1_1]) (t:=35) ?hr ?_;(case hd => rfl);(case hg => rfl);(case hr => (go_simp;done));intro gb220 hg w11 hbox hb;have n0_:=Aside0.mk (blk_below (g:=gb219) (o := .cells #[.int .i64 a0_0, .int .i64 a0_1] 35 (0,0)) (by exact BK219.out) hb);have n1_:=Aside0.mk (below_step (by exact HB.out) hb);have n2_:=Aside0.mk (hbox);have n3_:=Aside0.mk ((by rw [hg];exact (below_size (by exact HB.out)) : w.heap.size ≤ gb220));have n4_:=Aside0.mk ((by rw [hg];exact (below_size (by exact HB.out)) : w.heap.size ≤ gb220));have n5_:=Aside0.mk ((by rw [hg];exact Nat.ne_of_lt (blk_lt (g:=gb219) (o := .cells #[.int .i64 a0_0, .int .i64 a0_1] 35 (0,0)) (by exact BK219.out)) : gb219 ≠ gb220));have n6_:=Aside0.mk ((by rw [hg];exact Nat.ne_of_gt (blk_lt (g:=gb219) (o := .cells #[.int .i64 a0_0, .int .i64 a0_1] 35 (0,0)) (by exact BK219.out)) : gb220 ≠ gb219));clear BK219;clear HB;have BK219:=n0_;have HB:=n1_;have BK220:=n2_;have GW220:=n3_;have GE220:=n4_;have NB219_220:=n5_;have NB220_219:=n6_;clear n0_ n1_ n2_ n3_ n4_ n5_ n6_;clear hb hbox hg;have hnb12:=NB219_220.out;have hnc12:=NB220_219.out;have hcz13_0 : w11.cell? ⟨gb219,0,none⟩ = some (.int .i64 a0_0):=(blk_cell BK219.out 0).trans rfl;have hcz13_1 : w11.cell? ⟨gb219,1,none⟩ = some (.int .i64 a0_1):=(blk_cell BK219.out 1).trans rfl;have hfz13_0:=blk_frozen BK219.out 0;have hfz13_1:=blk_frozen BK219.out 1;have hcz14_0 : w11.cell? ⟨gb220,0,none⟩ = some (.int .i64 a1_0):=(blk_cell BK220.out 0).trans rfl;have hcz14_1 : w11.cell? ⟨gb220,1,none⟩ = some (.int .i64 a1_1):=(blk_cell BK220.out 1).trans rfl;have hfz14_0:=blk_frozen BK220.out 0;have hfz14_1:=blk_frozen BK220.out 1))
   go_ret
   exact ⟨by rfl,by exact HB.out⟩
 ·rw [if_neg c3] at H
  have c3b0 : (a0_0 == a1_0) = false:=beq_eq_false_iff_ne.mpr c3
  have c3b1 : (a0_0 != a1_0) = true:=bne_iff_ne.mpr c3
  obtain rfl:=Option.some.inj H
  go_enter Tryd.func35,Tryd.ntmps35
  go_wp2_with (first | ((with_reducible refine gate_dst (N:=2) rfl ?_);refine box_event ?hg (N:=2) ?hd (cs:=#[.int .i64 a0_0, .int .i64 a0_1]) (t:=35) ?hr ?_;(case hd => rfl);(case hg => rfl);(case hr => (go_simp;done));intro gb219 hg w15 hbox hb;have n0_:=Aside0.mk (below_step (by exact HB.out) hb);have n1_:=Aside0.mk (hbox);have n2_:=Aside0.mk ((by rw [hg];exact (below_size (by exact HB.out)) : w.heap.size ≤ gb219));have n3_:=Aside0.mk ((by rw [hg];exact (below_size (by exact HB.out)) : w.heap.size ≤ gb219));clear HB;have HB:=n0_;have BK219:=n1_;have GW219:=n2_;have GE219:=n3_;clear n0_ n1_ n2_ n3_;clear hb hbox hg) | ((with_reducible refine gate_dst (N:=3) rfl ?_);refine box_event ?hg (N:=3) ?hd (cs:=#[.int .i64 a1_0, .int .i64 a1_1]) (t:=35) ?hr ?_;(case hd => rfl);(case hg => rfl);(case hr => (go_simp;done));intro gb220 hg w16 hbox hb;have n0_:=Aside0.mk (blk_below (g:=gb219) (o := .cells #[.int .i64 a0_0, .int .i64 a0_1] 35 (0,0)) (by exact BK219.out) hb);have n1_:=Aside0.mk (below_step (by exact HB.out) hb);have n2_:=Aside0.mk (hbox);have n3_:=Aside0.mk ((by rw [hg];exact (below_size (by exact HB.out)) : w.heap.size ≤ gb220));have n4_:=Aside0.mk ((by rw [hg];exact (below_size (by exact HB.out)) : w.heap.size ≤ gb220));have n5_:=Aside0.mk ((by rw [hg];exact Nat.ne_of_lt (blk_lt (g:=gb219) (o := .cells #[.int .i64 a0_0, .int .i64 a0_1] 35 (0,0)) (by exact BK219.out)) : gb219 ≠ gb220));have n6_:=Aside0.mk ((by rw [hg];exact Nat.ne_of_gt (blk_lt (g:=gb219) (o := .cells #[.int .i64 a0_0, .int .i64 a0_1] 35 (0,0)) (by exact BK219.out)) : gb220 ≠ gb219));clear BK219;clear HB;have BK219:=n0_;have HB:=n1_;have BK220:=n2_;have GW220:=n3_;have GE220:=n4_;have NB219_220:=n5_;have NB220_219:=n6_;clear n0_ n1_ n2_ n3_ n4_ n5_ n6_;clear hb hbox hg;have hnb17:=NB219_220.out;have hnc17:=NB220_219.out;have hcz18_0 : w16.cell? ⟨gb219,0,none⟩ = some (.int .i64 a0_0):=(blk_cell BK219.out 0).trans rfl;have hcz18_1 : w16.cell? ⟨gb219,1,none⟩ = some (.int .i64 a0_1):=(blk_cell BK219.out 1).trans rfl;have hfz18_0:=blk_frozen BK219.out 0;have hfz18_1:=blk_frozen BK219.out 1;have hcz19_0 : w16.cell? ⟨gb220,0,none⟩ = some (.int .i64 a1_0):=(blk_cell BK220.out 0).trans rfl;have hcz19_1 : w16.cell? ⟨gb220,1,none⟩ = some (.int .i64 a1_1):=(blk_cell BK220.out 1).trans rfl;have hfz19_0:=blk_frozen BK220.out 0;have hfz19_1:=blk_frozen BK220.out 1))
  go_ret
  exact ⟨by rfl,by exact HB.out⟩

end Go.Proofs.YthogpinmmddicaaDoor.PFnExactParseCharge
