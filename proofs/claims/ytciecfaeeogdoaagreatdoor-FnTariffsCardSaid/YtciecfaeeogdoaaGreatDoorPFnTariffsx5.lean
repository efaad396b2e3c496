-- Written by a program of this session, over the kit's print (wip/xprint.py)
import Derived.Test.YtciecfaeeogdoaaGreatDoorPFnTariffsx0
import Derived.Test.YtciecfaeeogdoaaGreatDoorPFnTariffsx4
namespace Go.Proofs.YtciecfaeeogdoaaGreatDoor.PFnTariffs
open Go.RowKit Go.Proofs.YtciecfaeeogdoaaGreatDoorW.PrintWords Go.Proofs.YtciecfaeeogdoaaGreatDoorW.PrintLast Go.Proofs.YtciecfaeeogdoaaGreatDoorW.PrintMore
attribute [local go_sem] max2_int min2_int max_two min_two max_three min_three max_four min_four   -- for this text's walks alone
set_option linter.unusedVariables false
set_option linter.unusedSimpArgs false

/-! ### impl_chargeText: function 20 -/
def impl_chargeText.l0 : Nat → List ByteArray → List (S45) → Int → Int → Int → List (S45) → Int → Option (ByteArray)
 | 0,_,_,_,_,_,_,_ => none
 | k + 1,x3,x12,x13,x14,x216000,x216001,x216002 => if x14 < x13 then (if 0 ≤ x14 then (if x14 < (x12.length : Int) then ((impl_decimal.f ((rd_T45 x12 x14).f0)).bind fun t222 => (if t222.size + 3 ≤ 9223372036854775807 then ((impl_decimal.f ((rd_T45 x12 x14).f1)).bind fun t223 => (if (t222 ++ (⟨#[32,120,32]⟩ : ByteArray)).size + t223.size ≤ 9223372036854775807 then (if x3.length < 8796093022208 then (impl_chargeText.l0 k (x3 ++ [(t222 ++ (⟨#[32,120,32]⟩ : ByteArray)) ++ t223]) x12 x13 (wrap64 (x14 + 1)) x216000 x216001 x216002) else (none)) else (none))) else (none))) else (none)) else (none)) else ((impl_decimal.f x216002).bind fun t227 => (if 6 + t227.size ≤ 9223372036854775807 then (if x3.length < 8796093022208 then ((strings_Join.f (x3 ++ [(⟨#[108,97,114,103,101,32]⟩ : ByteArray) ++ t227]) (⟨#[44,32]⟩ : ByteArray)).bind fun t231 => (some t231)) else (none)) else (none)))
def impl_chargeText.f (k : Nat) (a0_0 : Int) (l0_1 : List (S45)) (a0_2 : Int) : Option (ByteArray):=(impl_decimal.f a0_0).bind fun t216 => (if t216.size + 5 ≤ 9223372036854775807 then (impl_chargeText.l0 k (([t216 ++ (⟨#[32,102,114,101,101]⟩ : ByteArray)] : List ByteArray)) l0_1 (l0_1.length : Int) 0 a0_0 l0_1 a0_2) else (none))
theorem impl_chargeText.mono_l : ∀ k,(∀ y0 y1 y2 y3 y4 y5 y6,LeO (impl_chargeText.l0 k y0 y1 y2 y3 y4 y5 y6) (impl_chargeText.l0 (k + 1) y0 y1 y2 y3 y4 y5 y6))
 | 0 => fun _ _ _ _ _ _ _ r h => by simp [impl_chargeText.l0] at h
 | k + 1 => by
  have ih0:=impl_chargeText.mono_l k
  ·intro y0 y1 y2 y3 y4 y5 y6
   unfold impl_chargeText.l0
   repeat' first
   | (with_reducible exact ih0 _ _ _ _ _ _ _)
   | (with_reducible exact LeO.refl _)
   | (with_reducible exact LeO.none _)
   | (with_reducible refine LeO.ite ?_ ?_)
   | (with_reducible refine LeO.bind ?_ (fun _ => ?_))
   | exact ih0 _ _ _ _ _ _ _
   | exact LeO.none _
   | refine LeO.ite ?_ ?_
   | refine LeO.bind ?_ (fun _ => ?_)
theorem impl_chargeText.mono : ∀ a0 a1 a2 k,LeO (impl_chargeText.f k a0 a1 a2) (impl_chargeText.f (k + 1) a0 a1 a2):=by
 intro a0 a1 a2 k;have ih0:=impl_chargeText.mono_l k
 unfold impl_chargeText.f
 repeat' first
   | (with_reducible exact ih0 _ _ _ _ _ _ _)
   | (with_reducible exact LeO.refl _)
   | (with_reducible exact LeO.none _)
   | (with_reducible refine LeO.ite ?_ ?_)
   | (with_reducible refine LeO.bind ?_ (fun _ => ?_))
   | exact ih0 _ _ _ _ _ _ _
   | exact LeO.none _
   | refine LeO.ite ?_ ?_
   | refine LeO.bind ?_ (fun _ => ?_)
def impl_chargeText.T5 : Bool × List (List Nat × List Nat):=(true,[([],[]),([],[]),([1],[1]),([2],[2]),([3],[3]),([],[]),([5],[5]),([6,3],[6]),([4,7],[4,7]),([8],[8]),([0,9,7],[0,9]),([10,10,0,1,2,3,4,5,6,7,8,9,10],[0,10])])
def impl_chargeText.B5 : List Nat := [0,0,2,6,14,0,32,110,254,510,1023,2047]
theorem impl_chargeText.tab5 : rtab .any (opsOf Tryz.f20 5) = impl_chargeText.T5:=by kernel_rfl
theorem impl_chargeText.bits5 : waitsOk impl_chargeText.T5.2 impl_chargeText.B5 = true:=by kernel_rfl
set_option maxHeartbeats 8000000 in
set_option maxRecDepth 100000 in
theorem impl_chargeText.calls (k : Nat) (a0_0 : Int) (A0_1 : Option Addr) (c0_1 : Nat) (l0_1 : List (S45)) (a0_2 : Int) (r : ByteArray) (w : World) (hr0_1 : Kd.C k45 w A0_1 l0_1.length l0_1) (hc0_1 : l0_1.length ≤ c0_1) (hT : Go.Proofs.YtciecfaeeogdoaaGreatDoorW.Met.Met w) (h : impl_chargeText.f k a0_0 l0_1 a0_2 = some r) :
  Calls Tryz.prog 20 #[.agg #[.int .i64 a0_0, .slice A0_1 l0_1.length c0_1, .int .i64 a0_2]] w fun e w' => e = .returned (.string r) ∧ Below w.heap.size w w':=by
 have hu26:=Tryz.underlying26;have hu45:=Tryz.underlying45;have HR0_1:=am_ hr0_1;have HC0_1:=am_ hc0_1;clear hr0_1 hc0_1;have HB:=am_ (Below.refl w.heap.size w);have H : ((impl_decimal.f a0_0).bind fun t216 => (if t216.size + 5 ≤ 9223372036854775807 then (impl_chargeText.l0 k (([t216 ++ (⟨#[32,102,114,101,101]⟩ : ByteArray)] : List ByteArray)) l0_1 (l0_1.length : Int) 0 a0_0 l0_1 a0_2) else (none))) = some r:=h;clear h;replace H:=Option.bind_eq_some_iff.mp H;obtain ⟨t216,A20,H⟩ := H;replace H : (if t216.size + 5 ≤ 9223372036854775807 then (impl_chargeText.l0 k (([t216 ++ (⟨#[32,102,114,101,101]⟩ : ByteArray)] : List ByteArray)) l0_1 (l0_1.length : Int) 0 a0_0 l0_1 a0_2) else (none)) = some r:=H;have A2:=am_ A20;clear A20
 by_cases c3 : t216.size + 5 ≤ 9223372036854775807
 ·rw [if_pos c3] at H;have c3b0:=eq_true c3;have c3b1 : decide (t216.size + 5 ≤ 9223372036854775807) = true:=decide_eq_true c3
  try have c3b2 : (9223372036854775807 < t216.size + 5) = False:=eq_false (Nat.not_lt.2 c3)
  obtain ⟨y217,hy217⟩ : ∃ y_ : List ByteArray,y_ = (([t216 ++ (⟨#[32,102,114,101,101]⟩ : ByteArray)] : List ByteArray)):=⟨_,rfl⟩
  replace H : (impl_chargeText.l0 k y217 l0_1 (l0_1.length : Int) 0 a0_0 l0_1 a0_2) = some r:=by (rw [hy217];with_reducible exact H)
  have Ny217:=am_ hy217;clear hy217;have H':=am_ H;clear H
  go_enter Tryz.func20,Tryz.ntmps20
  go_wp2_with (first | ((with_reducible refine gate_dst (N:=1) rfl ?_);refine box_event ?hg (N:=1) ?hd (cs:=#[.int .i64 a0_0, .slice A0_1 l0_1.length c0_1, .int .i64 a0_2]) (t:=26) ?hr ?_;(case hd => rfl);(case hg => rfl);(case hr => (go_simp;done));intro gb215 hg w4 hbox hb;have n0_:=am_ (below_step (by exact HB.out) hb);have n1_:=am_ hbox;have n2_:=am_ (ge_ hg (by exact HB.out));have n3_:=am_ (ge_ hg (by exact HB.out));clear HB;have HB:=n0_;have BK215:=n1_;have GW215:=n2_;have GE215:=n3_;clear n0_ n1_ n2_ n3_;clear hb hbox hg;have hcz5_0:=c3_0 BK215.out;have hcz5_1:=c3_1 BK215.out;have hcz5_2:=c3_2 BK215.out;have hfz5_0:=blk_frozen BK215.out 0;have hfz5_1:=blk_frozen BK215.out 1;have hfz5_2:=blk_frozen BK215.out 2) | ((with_reducible refine gate_callee (f:=46) rfl ?_);refine goesL_ (some 8) rfl rfl Tryz.func46 (by kernel_rfl) rfl #[.int .i64 a0_0] rfl (by (try simp only [List.map_toArray,List.map_cons,List.map_nil]);rfl) ?_;(with_reducible refine (impl_decimal.calls (hT:=?sgT) a0_0 t216 _ A2.out).mono ?_);(case sgT => exact Go.Proofs.YtciecfaeeogdoaaGreatDoorW.Met.Met.below hT (by exact HB.out));rintro e w6 ⟨rfl,hb⟩;refine ⟨_,rfl, ?_⟩;have n0_:=am_ (blk_below (by exact BK215.out) hb);have n1_:=am_ (below_step (by exact HB.out) hb);clear BK215;clear HB;have BK215:=n0_;have HB:=n1_;clear n0_ n1_;(try clear hb)) | ((with_reducible refine gate_dst (N:=10) rfl ?_);refine Kd.R_lit Kd.string _ 9 ?hg (N:=10) ?hd (xs:=([t216 ++ (⟨#[32,102,114,101,101]⟩ : ByteArray)] : List ByteArray)) (inner := [.string (t216 ++ (⟨#[32,102,114,101,101]⟩ : ByteArray))]) (ok:=fun _ => True) (okp:=fun _ => True) ?hr ?hp (fun _ hk => hk) trivial (Below.refl _ _) (Nat.le_refl _) (by simp) ?_;(case hd => rfl);(case hg => rfl);(case hr => (go_simp;done));(case hp => exact (Reps.one (show Kd.M Kd.string _ _ _ (t216 ++ (⟨#[32,102,114,101,101]⟩ : ByteArray)) [.string (t216 ++ (⟨#[32,102,114,101,101]⟩ : ByteArray))] from rfl) (Reps.none _ _)));intro v218 w7 ho8 hb hg_ hnew_;clear hg_ hnew_;(rw [← Ny217.out] at ho8);have n0_:=am_ (Kd.R_lower ho8 (below_size (by exact HB.out)));have n1_:=am_ (blk_below (by exact BK215.out) hb);have n2_:=am_ (below_step (by exact HB.out) hb);clear BK215;clear HB;have HO219:=n0_;have BK215:=n1_;have HB:=n2_;clear n0_ n1_ n2_;clear hb ho8;have hcz9_0:=c3_0 BK215.out;have hcz9_1:=c3_1 BK215.out;have hcz9_2:=c3_2 BK215.out;have hfz9_0:=blk_frozen BK215.out 0;have hfz9_1:=blk_frozen BK215.out 1;have hfz9_2:=blk_frozen BK215.out 2))
  (skip)
  go_loopg [3,14] k (fun kq v3 v14 w' => ∃ (x3_1 : List ByteArray) (x14_1 : Int),v14 = .int .i64 x14_1 ∧ Aside0 (impl_chargeText.l0 kq x3_1 l0_1 (l0_1.length : Int) x14_1 a0_0 l0_1 a0_2 = some r) ∧ Aside0 (kq ≤ k) ∧ Aside0 (Kd.R Kd.string 9 w' w.heap.size (fun _ => True) v3 x3_1) ∧ Aside0 (w'.heap[gb215]? = some (.cells #[.int .i64 a0_0,(.slice A0_1 l0_1.length c0_1), .int .i64 a0_2] 26 (0,0))) ∧ Aside0 (Below w.heap.size w w'))
  case atStart => exact ⟨(y217),(0),(by rfl),H',⟨Nat.le_refl _⟩,⟨by exact HO219.out⟩,⟨by exact BK215.out⟩,⟨by exact HB.out⟩⟩
  case round =>
   clear H';(try clear c2);(try clear p2);(try clear c3);(try clear c3b0);(try clear c3b1);(try clear c3b2);(try clear c4);(try clear hcz5_0);(try clear hcz5_1);(try clear hcz5_2);(try clear hcz9_0);(try clear hcz9_1);(try clear hcz9_2);(try clear hfz5_0);(try clear hfz5_1);(try clear hfz5_2);(try clear hfz9_0);(try clear hfz9_1);(try clear hfz9_2);obtain ⟨x3_1,x14_1,rfl,HA,HK1,HO_3,BK215,HB⟩ := hrel
   cases gk with
   | zero => exact absurd HA.out (by simp [impl_chargeText.l0])
   | succ k1 =>
    have H:=HA.out;clear HA;simp only [impl_chargeText.l0] at H
    by_cases c10 : x14_1 < (l0_1.length : Int)
    ·rw [if_pos c10] at H;have c10b0 : decide (x14_1 < (l0_1.length : Int)) = true:=decide_eq_true c10;clear c10
     by_cases c11 : 0 ≤ x14_1
     ·rw [if_pos c11] at H;have c11b0 : decide (0 ≤ x14_1) = true:=decide_eq_true c11;clear c11
      by_cases c12 : x14_1 < (l0_1.length : Int)
      ·rw [if_pos c12] at H;have c12b0 : decide (x14_1 < (l0_1.length : Int)) = true:=decide_eq_true c12;clear c12;replace H:=Option.bind_eq_some_iff.mp H;obtain ⟨t222,A130,H⟩ := H;replace H : (if t222.size + 3 ≤ 9223372036854775807 then ((impl_decimal.f ((rd_T45 l0_1 x14_1).f1)).bind fun t223 => (if (t222 ++ (⟨#[32,120,32]⟩ : ByteArray)).size + t223.size ≤ 9223372036854775807 then (if x3_1.length < 8796093022208 then (impl_chargeText.l0 k1 (x3_1 ++ [(t222 ++ (⟨#[32,120,32]⟩ : ByteArray)) ++ t223]) l0_1 (l0_1.length : Int) (wrap64 (x14_1 + 1)) a0_0 l0_1 a0_2) else (none)) else (none))) else (none)) = some r:=H;have A13:=am_ A130;clear A130
       by_cases c14 : t222.size + 3 ≤ 9223372036854775807
       ·rw [if_pos c14] at H;have c14b0:=eq_true c14;have c14b1 : decide (t222.size + 3 ≤ 9223372036854775807) = true:=decide_eq_true c14
        try have c14b2 : (9223372036854775807 < t222.size + 3) = False:=eq_false (Nat.not_lt.2 c14)
        replace H:=Option.bind_eq_some_iff.mp H;obtain ⟨t223,A150,H⟩ := H;replace H : (if (t222 ++ (⟨#[32,120,32]⟩ : ByteArray)).size + t223.size ≤ 9223372036854775807 then (if x3_1.length < 8796093022208 then (impl_chargeText.l0 k1 (x3_1 ++ [(t222 ++ (⟨#[32,120,32]⟩ : ByteArray)) ++ t223]) l0_1 (l0_1.length : Int) (wrap64 (x14_1 + 1)) a0_0 l0_1 a0_2) else (none)) else (none)) = some r:=H;have A15:=am_ A150;clear A150
        by_cases c16 : (t222 ++ (⟨#[32,120,32]⟩ : ByteArray)).size + t223.size ≤ 9223372036854775807
        ·rw [if_pos c16] at H;have c16b0:=eq_true c16;have c16b1 : decide ((t222 ++ (⟨#[32,120,32]⟩ : ByteArray)).size + t223.size ≤ 9223372036854775807) = true:=decide_eq_true c16
         try have c16b2 : (9223372036854775807 < (t222 ++ (⟨#[32,120,32]⟩ : ByteArray)).size + t223.size) = False:=eq_false (Nat.not_lt.2 c16)
         try have c16b4 : (9223372036854775807 < t222.size + 3 + t223.size) = False:=by have h_:=c16;simp only [ByteArray.size_append,show (⟨#[32,120,32]⟩ : ByteArray).size = 3 from rfl] at h_;exact eq_false (by omega)
         by_cases c17 : x3_1.length < 8796093022208
         ·rw [if_pos c17] at H;have LMc17:=am_ c17;clear c17;obtain ⟨y224,hy224⟩ : ∃ y_ : List ByteArray,y_ = (x3_1 ++ [(t222 ++ (⟨#[32,120,32]⟩ : ByteArray)) ++ t223]):=⟨_,rfl⟩
          replace H : (impl_chargeText.l0 k1 y224 l0_1 (l0_1.length : Int) (wrap64 (x14_1 + 1)) a0_0 l0_1 a0_2) = some r:=by (rw [hy224];with_reducible exact H)
          have Ny224:=am_ hy224;clear hy224;have H':=am_ H;clear H;have p220 : 0 ≤ (x14_1 : Int):=of_decide_eq_true (by (with_reducible assumption));have q220 : x14_1 < (l0_1.length : Int):=of_decide_eq_true (by (with_reducible assumption));obtain ⟨ad220,e220,hx220_0,hx220_1⟩ := at_T45 HR0_1.out x14_1 p220 q220;cases e220;replace hx220_0:=(HB.out.cell (World.block_lt_of_cell? w _ hx220_0)).trans hx220_0;replace hx220_1:=(HB.out.cell (World.block_lt_of_cell? w _ hx220_1)).trans hx220_1;replace p220:=eq_true p220;replace q220:=eq_true q220
          try go_wp2_with (((with_reducible refine gate_dst (N:=5) rfl ?_);refine box_event ?hg (N:=5) ?hd (cs:=#[.int .i64 0, .int .i64 0]) (t:=45) ?hr ?_;(case hd => rfl);(case hg => rfl);(case hr => (go_simp;done));intro gb221 hg w18 hbox hb;have n0_:=am_ (Kd.R_below (by exact HO_3.out) hb);have n1_:=am_ (blk_below (by exact BK215.out) hb);have n2_:=am_ (below_step (by exact HB.out) hb);have n3_:=am_ hbox;have n4_:=am_ (ge_ hg (by exact HB.out));have n5_:=am_ (ge_ hg (by exact HB.out));have n6_:=am_ (nl_ hg (by exact BK215.out));have n7_:=am_ (ng_ hg (by exact BK215.out));clear HO_3;clear BK215;clear HB;have HO_3:=n0_;have BK215:=n1_;have HB:=n2_;have BK221:=n3_;have GW221:=n4_;have GE221:=n5_;have NB215_221:=n6_;have NB221_215:=n7_;clear n0_ n1_ n2_ n3_ n4_ n5_ n6_ n7_;clear hb hbox hg;have hnb19:=NB221_215.out;have hnc19:=NB215_221.out;have hcz20_0:=c2_0 BK221.out;have hcz20_1:=c2_1 BK221.out;have hfz20_0:=blk_frozen BK221.out 0;have hfz20_1:=blk_frozen BK221.out 1))
          have n0_ : Aside0 (Kd.R Kd.string 9 ((w18.setCell ⟨gb221,0,none⟩ (.int .i64 ((rd_T45 l0_1 x14_1).f0))).setCell ⟨gb221,1,none⟩ (.int .i64 ((rd_T45 l0_1 x14_1).f1))) w.heap.size (fun _ => True) u3 x3_1):=⟨by exact Kd.R_mono (rf2_ (Kd.R_types HO_3.out BK221.out (by decide)) (.int .i64 ((rd_T45 l0_1 x14_1).f0)) (.int .i64 ((rd_T45 l0_1 x14_1).f1))) (fun _ hk => trivial)⟩;have n1_ : Aside0 (((w18.setCell ⟨gb221,0,none⟩ (.int .i64 ((rd_T45 l0_1 x14_1).f0))).setCell ⟨gb221,1,none⟩ (.int .i64 ((rd_T45 l0_1 x14_1).f1))).heap[gb215]? = some (.cells #[.int .i64 a0_0, .slice (some ad220) l0_1.length c0_1, .int .i64 a0_2] 26 (0,0))):=⟨by refine blk_far ?_ NB215_221.out _;refine blk_far ?_ NB215_221.out _;exact BK215.out⟩;have n2_ : Aside0 (((w18.setCell ⟨gb221,0,none⟩ (.int .i64 ((rd_T45 l0_1 x14_1).f0))).setCell ⟨gb221,1,none⟩ (.int .i64 ((rd_T45 l0_1 x14_1).f1))).heap[gb221]? = some (.cells #[.int .i64 ((rd_T45 l0_1 x14_1).f0), .int .i64 ((rd_T45 l0_1 x14_1).f1)] 45 (0,0))):=⟨by refine blk_put (cs:=#[.int .i64 ((rd_T45 l0_1 x14_1).f0), .int .i64 0]) ?_ 1 _ rfl;refine blk_put (cs:=#[.int .i64 0, .int .i64 0]) ?_ 0 _ rfl;exact BK221.out⟩;have n3_ : Aside0 (Below w.heap.size w ((w18.setCell ⟨gb221,0,none⟩ (.int .i64 ((rd_T45 l0_1 x14_1).f0))).setCell ⟨gb221,1,none⟩ (.int .i64 ((rd_T45 l0_1 x14_1).f1)))):=⟨by repeat ((with_reducible first | exact HB.out | refine below_set ?_ GE221.out))⟩;(try clear HO_3);(try clear BK215);(try clear BK221);(try clear HB);generalize ((w18.setCell ⟨gb221,0,none⟩ (.int .i64 ((rd_T45 l0_1 x14_1).f0))).setCell ⟨gb221,1,none⟩ (.int .i64 ((rd_T45 l0_1 x14_1).f1))) = w21 at n0_ n1_ n2_ n3_ ⊢;have HO_3:=n0_;have BK215:=n1_;have BK221:=n2_;have HB:=n3_;clear n0_ n1_ n2_ n3_;have n0_:=am_ (Kd.R_drew HO_3.out);have n1_:=am_ (blk_drew BK215.out);have n2_:=am_ (blk_drew BK221.out);have n3_:=am_ (below_drew1 HB.out);clear HO_3;clear BK215;clear BK221;clear HB;have HO_3:=n0_;have BK215:=n1_;have BK221:=n2_;have HB:=n3_;clear n0_ n1_ n2_ n3_
          refine start_ (n:=12) (S:=fun w' => w'.cell? ⟨gb221,0,none⟩ = some (.int .i64 ((rd_T45 l0_1 x14_1).f0)) ∧ w'.cell? ⟨gb221,1,none⟩ = some (.int .i64 ((rd_T45 l0_1 x14_1).f1))) (ds := []) #[false,false,false,false,false,false,false,false,false,false,false,false] (by kernel_rfl) rfl rfl ⟨(blk_cell BK221.out 0).trans rfl,(blk_cell BK221.out 1).trans rfl⟩ (fun hHeld => ?_);refine with_tabW impl_chargeText.tab5 impl_chargeText.bits5 (fun HT_ HW_ => ?_)
          generalize w21.drew = w22 at HO_3 BK215 BK221 HB hHeld ⊢;refine pure_ (i:=0) (N:=some 18) (v:=?_) (a':=?_) #[true,false,false,false,false,false,false,false,false,false,false,false] rfl rfl (any_of HT_.out (by kernel_rfl)) (fun _ _ _ h => h) (Or.inl ⟨by rfl, ?_⟩) ?_ ?_
          rotate_left
          ·intro w'
           go_simp
           with_reducible rfl
          rotate_left
          ·simp only [Act.put,sA_,s0_,s1_,i64_w,i32_w]
           rfl
          refine pure_ (i:=1) (N:=some 19) (v:=?_) (a':=?_) #[true,true,false,false,false,false,false,false,false,false,false,false] rfl rfl (any_of HT_.out (by kernel_rfl)) (fun _ _ _ h => h) (Or.inl ⟨by rfl, ?_⟩) ?_ ?_
          rotate_left
          ·intro w'
           go_simp
           with_reducible rfl
          rotate_left
          ·simp only [Act.put,sA_,s0_,s1_,i64_w,i32_w]
           rfl
          refine pure_ (i:=5) (N:=some 23) (v:=?_) (a':=?_) #[true,true,false,false,false,true,false,false,false,false,false,false] rfl rfl (any_of HT_.out (by kernel_rfl)) (fun _ _ _ h => h) (Or.inl ⟨by rfl, ?_⟩) ?_ ?_
          rotate_left
          ·intro w'
           go_simp
           with_reducible rfl
          rotate_left
          ·simp only [Act.put,sA_,s0_,s1_,i64_w,i32_w]
           rfl
          refine take_ (i:=2) (N:=some 20) (v:=?_) (a':=?_) #[true,true,true,false,false,true,false,false,false,false,false,false] rfl rfl (take_ofW HT_.out HW_.out (by kernel_rfl)) (fun _ _ _ h => h) (Or.inl ⟨by rfl, ?_⟩) hHeld ?_ ?_
          rotate_left
          ·rintro w' ⟨s0,s1⟩
           go_simp
           with_reducible rfl
          rotate_left
          ·simp only [Act.put,sA_,s0_,s1_,i64_w,i32_w]
           rfl
          refine take_ (i:=6) (N:=some 24) (v:=?_) (a':=?_) #[true,true,true,false,false,true,true,false,false,false,false,false] rfl rfl (take_ofW HT_.out HW_.out (by kernel_rfl)) (fun _ _ _ h => h) (Or.inl ⟨by rfl, ?_⟩) hHeld ?_ ?_
          rotate_left
          ·rintro w' ⟨s0,s1⟩
           go_simp
           with_reducible rfl
          rotate_left
          ·simp only [Act.put,sA_,s0_,s1_,i64_w,i32_w]
           rfl
          refine one_ (i:=3) (N:=some 21) #[true,true,true,true,false,true,true,false,false,false,false,false] rfl rfl (one_of HT_.out (by kernel_rfl)) (by decide) (fun K hK => ?_);refine goes_ Tryz.func46 (by kernel_rfl) rfl #[.int .i64 ((rd_T45 l0_1 x14_1).f0)] (by rfl) rfl rfl (by (try simp only [List.map_toArray,List.map_cons,List.map_nil]);rfl) ?_
          with_reducible refine (impl_decimal.calls (hT:=Go.Proofs.YtciecfaeeogdoaaGreatDoorW.Met.Met.below hT (by exact HB.out)) ((rd_T45 l0_1 x14_1).f0) t222 _ A13.out).mono ?_
          rintro e w23 ⟨rfl,hb⟩;refine ⟨_,rfl, ?_⟩;have n0_:=am_ (Kd.R_below (by exact HO_3.out) hb);have n1_:=am_ (blk_below (by exact BK215.out) hb);have n2_:=am_ (blk_below (by exact BK221.out) hb);have n3_:=am_ (below_step (by exact HB.out) hb);clear HO_3;clear BK215;clear BK221;clear HB;have HO_3:=n0_;have BK215:=n1_;have BK221:=n2_;have HB:=n3_;clear n0_ n1_ n2_ n3_;(try clear hb)
          (skip)
          (skip)
          (skip)
          refine hK.out _ _ ⟨(blk_cell BK221.out 0).trans rfl,(blk_cell BK221.out 1).trans rfl⟩ (fun hHeld => ?_);clear hK K;refine norm_ (a':=?_) ?_ ?_
          rotate_left
          ·show Act.put _ (some 21) _ = _
           simp only [Act.put,sA_,s0_,s1_,i64_w,i32_w]
           rfl
          refine pure_ (i:=4) (N:=some 22) (v:=?_) (a':=?_) #[true,true,true,true,true,true,true,false,false,false,false,false] rfl rfl (any_of HT_.out (by kernel_rfl)) (fun _ _ _ h => h) (Or.inl ⟨by rfl, ?_⟩) ?_ ?_
          rotate_left
          ·intro w'
           go_simp
           with_reducible rfl
          rotate_left
          ·simp only [Act.put,sA_,s0_,s1_,i64_w,i32_w]
           rfl
          refine one_ (i:=7) (N:=some 25) #[true,true,true,true,true,true,true,true,false,false,false,false] rfl rfl (one_of HT_.out (by kernel_rfl)) (by decide) (fun K hK => ?_);refine goes_ Tryz.func46 (by kernel_rfl) rfl #[.int .i64 ((rd_T45 l0_1 x14_1).f1)] (by rfl) rfl rfl (by (try simp only [List.map_toArray,List.map_cons,List.map_nil]);rfl) ?_
          with_reducible refine (impl_decimal.calls (hT:=Go.Proofs.YtciecfaeeogdoaaGreatDoorW.Met.Met.below hT (by exact HB.out)) ((rd_T45 l0_1 x14_1).f1) t223 _ A15.out).mono ?_
          rintro e w24 ⟨rfl,hb⟩;refine ⟨_,rfl, ?_⟩;have n0_:=am_ (Kd.R_below (by exact HO_3.out) hb);have n1_:=am_ (blk_below (by exact BK215.out) hb);have n2_:=am_ (blk_below (by exact BK221.out) hb);have n3_:=am_ (below_step (by exact HB.out) hb);clear HO_3;clear BK215;clear BK221;clear HB;have HO_3:=n0_;have BK215:=n1_;have BK221:=n2_;have HB:=n3_;clear n0_ n1_ n2_ n3_;(try clear hb)
          (skip)
          (skip)
          (skip)
          refine hK.out _ _ ⟨(blk_cell BK221.out 0).trans rfl,(blk_cell BK221.out 1).trans rfl⟩ (fun hHeld => ?_);clear hK K;refine norm_ (a':=?_) ?_ ?_
          rotate_left
          ·show Act.put _ (some 25) _ = _
           simp only [Act.put,sA_,s0_,s1_,i64_w,i32_w]
           rfl
          refine pure_ (i:=8) (N:=some 26) (v:=?_) (a':=?_) #[true,true,true,true,true,true,true,true,true,false,false,false] rfl rfl (any_of HT_.out (by kernel_rfl)) (fun _ _ _ h => h) (Or.inl ⟨by rfl, ?_⟩) ?_ ?_
          rotate_left
          ·intro w'
           go_simp
           with_reducible rfl
          rotate_left
          ·simp only [Act.put,sA_,s0_,s1_,i64_w,i32_w]
           rfl
          refine one_ (i:=9) (N:=some 27) #[true,true,true,true,true,true,true,true,true,true,false,false] rfl rfl (one_of HT_.out (by kernel_rfl)) (by decide) (fun K hK => ?_);refine value_ (w1:=?_) (v:=?_) (by rfl) rfl ?_ ?_
          rotate_left 2
          ·go_simp
           constructor
           ·rfl
           ·rfl
          refine hK.out _ _ ⟨(blk_cell (blk_alloc BK221.out _) 0).trans rfl,(blk_cell (blk_alloc BK221.out _) 1).trans rfl⟩ (fun hHeld => ?_);clear hK K;refine norm_ (a':=?_) ?_ ?_
          rotate_left
          ·show Act.put _ (some 27) _ = _
           simp only [Act.put,sA_,s0_,s1_,i64_w,i32_w]
           rfl
          refine one_ (i:=10) (N:=some 28) #[true,true,true,true,true,true,true,true,true,true,true,false] rfl rfl (one_of HT_.out (by kernel_rfl)) (by decide) (fun K hK => ?_);refine Kd.R_append_step Kd.string (w0:=w) w.heap.size (by rfl) (.tmp 18) (.tmp 27) 46 9 (.string ⟨#[]⟩) 16 rfl Tryz.underlying46 info9 rfl (by decide) (by omega) u3 x3_1 ((t222 ++ (⟨#[32,120,32]⟩ : ByteArray)) ++ t223) [.string ((t222 ++ (⟨#[32,120,32]⟩ : ByteArray)) ++ t223)] (fun _ => True) (fun _ => False) rfl rfl ?aP (fun _ hk => hk.elim) ?aF ?aO ?aB ?aS ?aL ?_
          (case aP => exact rfl)
          (case aB => exact (by exact HB.out))
          (case aF => exact (fun _ _ => trivial))
          (case aO => exact (by exact HO_3.out))
          (case aS => exact (below_size (by exact HB.out)))
          (case aL => have:=LMc17.out;omega)
          intro v225 w25 ho hb hg hat
          rw [← Ny224.out] at ho;have n0_:=am_ (blk_grown (g:=gb215) (o := .cells #[.int .i64 a0_0, .slice (some ad220) l0_1.length c0_1, .int .i64 a0_2] 26 (0,0)) (by exact BK215.out) hg (Kd.R_ne HO_3.out BK215.out (by decide)));have n1_:=am_ (blk_grown (g:=gb221) (o := .cells #[.int .i64 ((rd_T45 l0_1 x14_1).f0), .int .i64 ((rd_T45 l0_1 x14_1).f1)] 45 (0,0)) (by exact BK221.out) hg (Kd.R_ne HO_3.out BK221.out (by decide)));have n2_:=am_ hb;have n3_:=am_ (ho);clear BK215;clear BK221;clear HB;clear HO_3;have BK215:=n0_;have BK221:=n1_;have HB:=n2_;have HO226:=n3_;clear n0_ n1_ n2_ n3_
          clear ho hb hg hat
          refine hK.out _ _ ⟨(blk_cell BK221.out 0).trans rfl,(blk_cell BK221.out 1).trans rfl⟩ (fun hHeld => ?_);clear hK K;refine norm_ (a':=?_) ?_ ?_
          rotate_left
          ·show Act.put _ (some 28) _ = _
           simp only [Act.put,sA_,s0_,s1_,i64_w,i32_w]
           rfl
          refine pure_ (i:=11) (N:=some 3) (v:=?_) (a':=?_) #[true,true,true,true,true,true,true,true,true,true,true,true] rfl rfl (any_of HT_.out (by kernel_rfl)) (fun _ _ _ h => h) (Or.inl ⟨by rfl, ?_⟩) ?_ ?_
          rotate_left
          ·intro w'
           go_simp
           with_reducible rfl
          rotate_left
          ·simp only [Act.put,sA_,s0_,s1_,i64_w,i32_w]
           rfl
          refine done_ (done_of HT_.out (by kernel_rfl)) ?_
          try go_wp2
          go_roundg k1
          case measure => have:=HK1.out;omega
          case rel => exact ⟨(y224),(wrap64 (x14_1 + 1)),(by rfl),H',⟨by have:=HK1.out;omega⟩,⟨by exact HO226.out⟩,⟨by exact BK215.out⟩,⟨by exact HB.out⟩⟩
         ·rw [if_neg c17] at H
          exact absurd H (by simp)
        ·rw [if_neg c16] at H
         exact absurd H (by simp)
       ·rw [if_neg c14] at H
        exact absurd H (by simp)
      ·rw [if_neg c12] at H
       exact absurd H (by simp)
     ·rw [if_neg c11] at H
      exact absurd H (by simp)
    ·rw [if_neg c10] at H;have c10b0 : decide (x14_1 < (l0_1.length : Int)) = false:=decide_eq_false c10;clear c10;replace H:=Option.bind_eq_some_iff.mp H;obtain ⟨t227,A260,H⟩ := H;replace H : (if 6 + t227.size ≤ 9223372036854775807 then (if x3_1.length < 8796093022208 then ((strings_Join.f (x3_1 ++ [(⟨#[108,97,114,103,101,32]⟩ : ByteArray) ++ t227]) (⟨#[44,32]⟩ : ByteArray)).bind fun t231 => (some t231)) else (none)) else (none)) = some r:=H;have A26:=am_ A260;clear A260
     by_cases c27 : 6 + t227.size ≤ 9223372036854775807
     ·rw [if_pos c27] at H;have c27b0:=eq_true c27;have c27b1 : decide (6 + t227.size ≤ 9223372036854775807) = true:=decide_eq_true c27
      try have c27b2 : (9223372036854775807 < 6 + t227.size) = False:=eq_false (Nat.not_lt.2 c27)
      by_cases c28 : x3_1.length < 8796093022208
      ·rw [if_pos c28] at H;have LMc28:=am_ c28;clear c28;obtain ⟨y228,hy228⟩ : ∃ y_ : List ByteArray,y_ = (x3_1 ++ [(⟨#[108,97,114,103,101,32]⟩ : ByteArray) ++ t227]):=⟨_,rfl⟩
       replace H : ((strings_Join.f y228 (⟨#[44,32]⟩ : ByteArray)).bind fun t231 => (some t231)) = some r:=by (rw [hy228];with_reducible exact H)
       have Ny228:=am_ hy228;clear hy228;replace H:=Option.bind_eq_some_iff.mp H;obtain ⟨t231,A290,H⟩ := H;replace H : (some t231) = some r:=H;have A29:=am_ A290;clear A290;obtain rfl:=Option.some.inj H;have hcz30_0:=c3_0 BK215.out;have hcz30_1:=c3_1 BK215.out;have hcz30_2:=c3_2 BK215.out;have hfz30_0:=blk_frozen BK215.out 0;have hfz30_1:=blk_frozen BK215.out 1;have hfz30_2:=blk_frozen BK215.out 2
       go_wp2_with (first | ((with_reducible refine gate_callee (f:=46) rfl ?_);refine goesL_ (some 33) rfl rfl Tryz.func46 (by kernel_rfl) rfl #[.int .i64 a0_2] rfl (by (try simp only [List.map_toArray,List.map_cons,List.map_nil]);rfl) ?_;(with_reducible refine (impl_decimal.calls (hT:=?sgT) a0_2 t227 _ A26.out).mono ?_);(case sgT => exact Go.Proofs.YtciecfaeeogdoaaGreatDoorW.Met.Met.below hT (by exact HB.out));rintro e w31 ⟨rfl,hb⟩;refine ⟨_,rfl, ?_⟩;have n0_:=am_ (Kd.R_below (by exact HO_3.out) hb);have n1_:=am_ (blk_below (by exact BK215.out) hb);have n2_:=am_ (below_step (by exact HB.out) hb);clear HO_3;clear BK215;clear HB;have HO_3:=n0_;have BK215:=n1_;have HB:=n2_;clear n0_ n1_ n2_;(try clear hb)) | ((with_reducible refine gate_builtin (b := .append) (xs:=#[.tmp 30, .tmp 35]) rfl ?_);at_builtin;refine Kd.R_append Kd.string (w0:=w) w.heap.size rfl (.tmp 30) (.tmp 35) 46 9 (.string ⟨#[]⟩) 16 rfl Tryz.underlying46 info9 rfl (by decide) (by omega) u3 x3_1 ((⟨#[108,97,114,103,101,32]⟩ : ByteArray) ++ t227) [.string ((⟨#[108,97,114,103,101,32]⟩ : ByteArray) ++ t227)] (fun _ => True) (fun _ => False) rfl rfl ?aP (fun _ hk => hk.elim) ?aF ?aO ?aB ?aS ?aL ?_;(case aP => exact rfl);(case aB => exact (by exact HB.out));(case aF => exact (fun _ _ => trivial));(case aO => exact (by exact HO_3.out));(case aS => exact (below_size (by exact HB.out)));(case aL => have:=LMc28.out;omega);intro v229 w32 ho hb hg hat;rw [← Ny228.out] at ho;have n0_:=am_ (blk_grown (g:=gb215) (o := .cells #[.int .i64 a0_0, .slice A0_1 l0_1.length c0_1, .int .i64 a0_2] 26 (0,0)) (by exact BK215.out) hg (Kd.R_ne HO_3.out BK215.out (by decide)));have n1_:=am_ hb;have n2_:=am_ (ho);clear BK215;clear HB;clear HO_3;have BK215:=n0_;have HB:=n1_;have HO230:=n2_;clear n0_ n1_ n2_;clear ho hb hg hat;obtain ⟨Ao33,co33,eo33⟩ := Kd.R_slice HO230.out;subst eo33) | ((with_reducible refine gate_callee (f:=47) rfl ?_);refine goesL_ (some 37) rfl rfl Tryz.func47 (by kernel_rfl) rfl #[.slice Ao33 y228.length co33, .string (⟨#[44,32]⟩ : ByteArray)] rfl (by (try simp only [List.map_toArray,List.map_cons,List.map_nil]);rfl) ?_;(with_reducible refine (strings_Join.calls _ _ y228 (⟨#[44,32]⟩ : ByteArray) t231 _ ?side1 ?side2 A29.out).mono ?_);(case side1 => repeat (exact (Kd.R_reads' HO230.out).2.2));(case side2 => exact (Kd.R_reads' HO230.out).2.1);rintro e w34 ⟨rfl,hb⟩;refine ⟨_,rfl, ?_⟩;have n0_:=am_ (Kd.R_below (by exact HO230.out) hb);have n1_:=am_ (blk_below (by exact BK215.out) hb);have n2_:=am_ (below_step (by exact HB.out) hb);clear HO230;clear BK215;clear HB;have HO230:=n0_;have BK215:=n1_;have HB:=n2_;clear n0_ n1_ n2_;(try clear hb)))
       go_ret
       exact ⟨by rfl,by exact HB.out⟩
      ·rw [if_neg c28] at H
       exact absurd H (by simp)
     ·rw [if_neg c27] at H
      exact absurd H (by simp)
 ·rw [if_neg c3] at H
  exact absurd H (by simp)

/-! ### impl_ChargeText: function 6 -/
def impl_ChargeText.f (k : Nat) (a0_0 : Int) (l0_1 : List (S45)) (a0_2 : Int) : Option (ByteArray × Bool):=(impl_IsValidCharge.f k a0_0 l0_1 a0_2).bind fun t233 => (if t233 = true then ((impl_chargeText.f k a0_0 l0_1 a0_2).bind fun t234 => (some (t234,true))) else (some ((⟨#[]⟩ : ByteArray),false)))
theorem impl_ChargeText.mono : ∀ a0 a1 a2 k,LeO (impl_ChargeText.f k a0 a1 a2) (impl_ChargeText.f (k + 1) a0 a1 a2):=by
 intro a0 a1 a2 k
 unfold impl_ChargeText.f
 repeat' first
   | (with_reducible exact impl_IsValidCharge.mono _ _ _ _)
   | (with_reducible exact impl_chargeText.mono _ _ _ _)
   | (with_reducible exact LeO.refl _)
   | (with_reducible exact LeO.none _)
   | (with_reducible refine LeO.ite ?_ ?_)
   | (with_reducible refine LeO.bind ?_ (fun _ => ?_))
   | exact impl_IsValidCharge.mono _ _ _ _
   | exact impl_chargeText.mono _ _ _ _
   | exact LeO.none _
   | refine LeO.ite ?_ ?_
   | refine LeO.bind ?_ (fun _ => ?_)
set_option maxHeartbeats 8000000 in
set_option maxRecDepth 100000 in
theorem impl_ChargeText.calls (k : Nat) (a0_0 : Int) (A0_1 : Option Addr) (c0_1 : Nat) (l0_1 : List (S45)) (a0_2 : Int) (r1 : ByteArray) (r2 : Bool) (w : World) (hr0_1 : Kd.C k45 w A0_1 l0_1.length l0_1) (hc0_1 : l0_1.length ≤ c0_1) (hT : Go.Proofs.YtciecfaeeogdoaaGreatDoorW.Met.Met w) (h : impl_ChargeText.f k a0_0 l0_1 a0_2 = some (r1,r2)) :
  Calls Tryz.prog 6 #[.agg #[.int .i64 a0_0, .slice A0_1 l0_1.length c0_1, .int .i64 a0_2]] w fun e w' => e = .returned (.tuple #[.string r1, .bool r2]) ∧ Below w.heap.size w w':=by
 have hu26:=Tryz.underlying26;have HR0_1:=am_ hr0_1;have HC0_1:=am_ hc0_1;clear hr0_1 hc0_1;have HB:=am_ (Below.refl w.heap.size w);have H : ((impl_IsValidCharge.f k a0_0 l0_1 a0_2).bind fun t233 => (if t233 = true then ((impl_chargeText.f k a0_0 l0_1 a0_2).bind fun t234 => (some (t234,true))) else (some ((⟨#[]⟩ : ByteArray),false)))) = some (r1,r2):=h;clear h;replace H:=Option.bind_eq_some_iff.mp H;obtain ⟨t233,A20,H⟩ := H;replace H : (if t233 = true then ((impl_chargeText.f k a0_0 l0_1 a0_2).bind fun t234 => (some (t234,true))) else (some ((⟨#[]⟩ : ByteArray),false))) = some (r1,r2):=H;have A2:=am_ A20;clear A20
 by_cases c3 : t233 = true
 ·subst c3
  have H1 : ((impl_chargeText.f k a0_0 l0_1 a0_2).bind fun t234 => (some (t234,true))) = some (r1,r2):=by rw [if_pos rfl] at H;exact H
  clear H;have H:=H1;clear H1;replace H:=Option.bind_eq_some_iff.mp H;obtain ⟨t234,A40,H⟩ := H;replace H : (some (t234,true)) = some (r1,r2):=H;have A4:=am_ A40;clear A40;simp only [Option.some.injEq,Prod.mk.injEq] at H;obtain ⟨rfl,rfl⟩ := H
  go_enter Tryz.func6,Tryz.ntmps6
  go_wp2_with (first | ((with_reducible refine gate_dst (N:=1) rfl ?_);refine box_event ?hg (N:=1) ?hd (cs:=#[.int .i64 a0_0, .slice A0_1 l0_1.length c0_1, .int .i64 a0_2]) (t:=26) ?hr ?_;(case hd => rfl);(case hg => rfl);(case hr => (go_simp;done));intro gb232 hg w5 hbox hb;have n0_:=am_ (below_step (by exact HB.out) hb);have n1_:=am_ hbox;have n2_:=am_ (ge_ hg (by exact HB.out));have n3_:=am_ (ge_ hg (by exact HB.out));clear HB;have HB:=n0_;have BK232:=n1_;have GW232:=n2_;have GE232:=n3_;clear n0_ n1_ n2_ n3_;clear hb hbox hg;have hcz6_0:=c3_0 BK232.out;have hcz6_1:=c3_1 BK232.out;have hcz6_2:=c3_2 BK232.out;have hfz6_0:=blk_frozen BK232.out 0;have hfz6_1:=blk_frozen BK232.out 1;have hfz6_2:=blk_frozen BK232.out 2) | ((with_reducible refine gate_callee (f:=19) rfl ?_);refine goesL_ (some 5) rfl rfl Tryz.func19 (by kernel_rfl) rfl #[.agg #[.int .i64 a0_0, .slice A0_1 l0_1.length c0_1, .int .i64 a0_2]] rfl (by (try simp only [List.map_toArray,List.map_cons,List.map_nil]);rfl) ?_;(with_reducible refine (impl_IsValidCharge.calls k a0_0 _ _ l0_1 a0_2 true _ ?side1 ?side2 A2.out).mono ?_);(case side1 => repeat (exact (Kd.C_below HR0_1.out HB.out)));(case side2 => exact HC0_1.out);rintro e w7 ⟨rfl,hb⟩;refine ⟨_,rfl, ?_⟩;have n0_:=am_ (blk_below (by exact BK232.out) hb);have n1_:=am_ (below_step (by exact HB.out) hb);clear BK232;clear HB;have BK232:=n0_;have HB:=n1_;clear n0_ n1_;(try clear hb);have hcz8_0:=c3_0 BK232.out;have hcz8_1:=c3_1 BK232.out;have hcz8_2:=c3_2 BK232.out;have hfz8_0:=blk_frozen BK232.out 0;have hfz8_1:=blk_frozen BK232.out 1;have hfz8_2:=blk_frozen BK232.out 2) | ((with_reducible refine gate_callee (f:=20) rfl ?_);refine goesL_ (some 8) rfl rfl Tryz.func20 (by kernel_rfl) rfl #[.agg #[.int .i64 a0_0, .slice A0_1 l0_1.length c0_1, .int .i64 a0_2]] rfl (by (try simp only [List.map_toArray,List.map_cons,List.map_nil]);rfl) ?_;(with_reducible refine (impl_chargeText.calls (hT:=?sgT) k a0_0 _ _ l0_1 a0_2 t234 _ ?side1 ?side2 A4.out).mono ?_);(case sgT => exact Go.Proofs.YtciecfaeeogdoaaGreatDoorW.Met.Met.below hT (by exact HB.out));(case side1 => repeat (exact (Kd.C_below HR0_1.out HB.out)));(case side2 => exact HC0_1.out);rintro e w9 ⟨rfl,hb⟩;refine ⟨_,rfl, ?_⟩;have n0_:=am_ (blk_below (by exact BK232.out) hb);have n1_:=am_ (below_step (by exact HB.out) hb);clear BK232;clear HB;have BK232:=n0_;have HB:=n1_;clear n0_ n1_;(try clear hb)))
  go_ret2
  exact ⟨by rfl,by exact HB.out⟩
 ·replace c3:=Bool.eq_false_iff.mpr c3;subst c3
  have H1 : (some ((⟨#[]⟩ : ByteArray),false)) = some (r1,r2):=by rw [if_neg (show ¬ (false = true) by decide)] at H;exact H
  clear H;have H:=H1;clear H1;simp only [Option.some.injEq,Prod.mk.injEq] at H;obtain ⟨rfl,rfl⟩ := H
  go_enter Tryz.func6,Tryz.ntmps6
  go_wp2_with (first | ((with_reducible refine gate_dst (N:=1) rfl ?_);refine box_event ?hg (N:=1) ?hd (cs:=#[.int .i64 a0_0, .slice A0_1 l0_1.length c0_1, .int .i64 a0_2]) (t:=26) ?hr ?_;(case hd => rfl);(case hg => rfl);(case hr => (go_simp;done));intro gb232 hg w10 hbox hb;have n0_:=am_ (below_step (by exact HB.out) hb);have n1_:=am_ hbox;have n2_:=am_ (ge_ hg (by exact HB.out));have n3_:=am_ (ge_ hg (by exact HB.out));clear HB;have HB:=n0_;have BK232:=n1_;have GW232:=n2_;have GE232:=n3_;clear n0_ n1_ n2_ n3_;clear hb hbox hg;have hcz11_0:=c3_0 BK232.out;have hcz11_1:=c3_1 BK232.out;have hcz11_2:=c3_2 BK232.out;have hfz11_0:=blk_frozen BK232.out 0;have hfz11_1:=blk_frozen BK232.out 1;have hfz11_2:=blk_frozen BK232.out 2) | ((with_reducible refine gate_callee (f:=19) rfl ?_);refine goesL_ (some 5) rfl rfl Tryz.func19 (by kernel_rfl) rfl #[.agg #[.int .i64 a0_0, .slice A0_1 l0_1.length c0_1, .int .i64 a0_2]] rfl (by (try simp only [List.map_toArray,List.map_cons,List.map_nil]);rfl) ?_;(with_reducible refine (impl_IsValidCharge.calls k a0_0 _ _ l0_1 a0_2 false _ ?side1 ?side2 A2.out).mono ?_);(case side1 => repeat (exact (Kd.C_below HR0_1.out HB.out)));(case side2 => exact HC0_1.out);rintro e w12 ⟨rfl,hb⟩;refine ⟨_,rfl, ?_⟩;have n0_:=am_ (blk_below (by exact BK232.out) hb);have n1_:=am_ (below_step (by exact HB.out) hb);clear BK232;clear HB;have BK232:=n0_;have HB:=n1_;clear n0_ n1_;(try clear hb)))
  go_ret2
  exact ⟨by rfl,by exact HB.out⟩

/-! ### spec_l1In: function 43 -/
def spec_l1In.f (a0 : Int) (a1 : Int) (a2 : Int) : Option (Bool):=if a0 ≥ a1 then (some (decide (a0 ≤ a2))) else (some false)
set_option maxHeartbeats 8000000 in
set_option maxRecDepth 100000 in
theorem spec_l1In.calls (a0 : Int) (a1 : Int) (a2 : Int) (r : Bool) (w : World) (h : spec_l1In.f a0 a1 a2 = some r) :
  Calls Tryz.prog 43 #[.int .i64 a0, .int .i64 a1, .int .i64 a2] w fun e w' => e = .returned (.bool r) ∧ Drawn0 w w':=by
 have H : (if a0 ≥ a1 then (some (decide (a0 ≤ a2))) else (some false)) = some r:=h;clear h
 by_cases c4 : a0 ≥ a1
 ·rw [if_pos c4] at H;have c4b0 : decide (a1 ≤ a0) = true:=decide_eq_true c4;clear c4;obtain rfl:=Option.some.inj H
  go_enter Tryz.func43,Tryz.ntmps43
  go_wp2
  go_ret
  exact ⟨by rfl,by repeat (exact Drawn0.refl _)⟩
 ·rw [if_neg c4] at H;have c4b0 : decide (a1 ≤ a0) = false:=decide_eq_false c4;clear c4;obtain rfl:=Option.some.inj H
  go_enter Tryz.func43,Tryz.ntmps43
  go_wp2
  go_ret
  exact ⟨by rfl,by repeat (exact Drawn0.refl _)⟩

/-! ### spec_l22Good: function 21 -/
mutual
def spec_l22Good.j0 : Nat → Bool → Int → List (S45) → Int → Option (Bool)
 | 0,_,_,_,_ => none
 | k + 1,x20,x236000,x236001,x236002 => if x20 = true then (some false) else (spec_l22Good.l0 k 0 x236000 x236001 x236002)
def spec_l22Good.l0 : Nat → Int → Int → List (S45) → Int → Option (Bool)
 | 0,_,_,_,_ => none
 | k + 1,x3,x236000,x236001,x236002 => if x3 < (x236001.length : Int) then (if 0 ≤ x3 then ((spec_l1In.f ((rd_T45 x236001 x3).f0) 1 100).bind fun t240 => (if t240 = true then ((spec_l1In.f ((rd_T45 x236001 x3).f1) 0 10000).bind fun t242 => (if t242 = true then (spec_l22Good.l0 k (wrap64 (x3 + 1)) x236000 x236001 x236002) else (some false))) else (some false))) else (none)) else (some true)
end
def spec_l22Good.f (k : Nat) (a0_0 : Int) (l0_1 : List (S45)) (a0_2 : Int) : Option (Bool):=(spec_l1In.f a0_0 0 30).bind fun t236 => (if t236 = true then ((spec_l1In.f (l0_1.length : Int) 1 6).bind fun t237 => (if t237 = true then ((spec_l1In.f a0_2 100 300).bind fun t238 => (spec_l22Good.j0 k (!t238) a0_0 l0_1 a0_2)) else (spec_l22Good.j0 k true a0_0 l0_1 a0_2))) else (spec_l22Good.j0 k true a0_0 l0_1 a0_2))
theorem spec_l22Good.mono_l : ∀ k,(∀ y0 y1 y2 y3,LeO (spec_l22Good.j0 k y0 y1 y2 y3) (spec_l22Good.j0 (k + 1) y0 y1 y2 y3)) ∧ (∀ y0 y1 y2 y3,LeO (spec_l22Good.l0 k y0 y1 y2 y3) (spec_l22Good.l0 (k + 1) y0 y1 y2 y3))
 | 0 => ⟨fun _ _ _ _ r h => by simp [spec_l22Good.j0] at h,fun _ _ _ _ r h => by simp [spec_l22Good.l0] at h⟩
 | k + 1 => by
  obtain ⟨ih0,ih1⟩ := spec_l22Good.mono_l k;refine ⟨?_, ?_⟩
  ·intro y0 y1 y2 y3
   unfold spec_l22Good.j0
   repeat' first
   | (with_reducible exact ih0 _ _ _ _)
   | (with_reducible exact ih1 _ _ _ _)
   | (with_reducible exact LeO.refl _)
   | (with_reducible exact LeO.none _)
   | (with_reducible refine LeO.ite ?_ ?_)
   | (with_reducible refine LeO.bind ?_ (fun _ => ?_))
   | exact ih0 _ _ _ _
   | exact ih1 _ _ _ _
   | exact LeO.none _
   | refine LeO.ite ?_ ?_
   | refine LeO.bind ?_ (fun _ => ?_)
  ·intro y0 y1 y2 y3
   unfold spec_l22Good.l0
   repeat' first
   | (with_reducible exact ih0 _ _ _ _)
   | (with_reducible exact ih1 _ _ _ _)
   | (with_reducible exact LeO.refl _)
   | (with_reducible exact LeO.none _)
   | (with_reducible refine LeO.ite ?_ ?_)
   | (with_reducible refine LeO.bind ?_ (fun _ => ?_))
   | exact ih0 _ _ _ _
   | exact ih1 _ _ _ _
   | exact LeO.none _
   | refine LeO.ite ?_ ?_
   | refine LeO.bind ?_ (fun _ => ?_)
theorem spec_l22Good.mono : ∀ a0 a1 a2 k,LeO (spec_l22Good.f k a0 a1 a2) (spec_l22Good.f (k + 1) a0 a1 a2):=by
 intro a0 a1 a2 k;obtain ⟨ih0,ih1⟩ := spec_l22Good.mono_l k
 unfold spec_l22Good.f
 repeat' first
   | (with_reducible exact ih0 _ _ _ _)
   | (with_reducible exact ih1 _ _ _ _)
   | (with_reducible exact LeO.refl _)
   | (with_reducible exact LeO.none _)
   | (with_reducible refine LeO.ite ?_ ?_)
   | (with_reducible refine LeO.bind ?_ (fun _ => ?_))
   | exact ih0 _ _ _ _
   | exact ih1 _ _ _ _
   | exact LeO.none _
   | refine LeO.ite ?_ ?_
   | refine LeO.bind ?_ (fun _ => ?_)
set_option maxHeartbeats 8000000 in
set_option maxRecDepth 100000 in
theorem spec_l22Good.calls (k : Nat) (a0_0 : Int) (A0_1 : Option Addr) (c0_1 : Nat) (l0_1 : List (S45)) (a0_2 : Int) (r : Bool) (w : World) (hr0_1 : Kd.C k45 w A0_1 l0_1.length l0_1) (hc0_1 : l0_1.length ≤ c0_1) (h : spec_l22Good.f k a0_0 l0_1 a0_2 = some r) :
  Calls Tryz.prog 21 #[.agg #[.int .i64 a0_0, .slice A0_1 l0_1.length c0_1, .int .i64 a0_2]] w fun e w' => e = .returned (.bool r) ∧ Below w.heap.size w w':=by
 have hu26:=Tryz.underlying26;have HR0_1:=am_ hr0_1;have HC0_1:=am_ hc0_1;clear hr0_1 hc0_1;have HB:=am_ (Below.refl w.heap.size w);have H : ((spec_l1In.f a0_0 0 30).bind fun t236 => (if t236 = true then ((spec_l1In.f (l0_1.length : Int) 1 6).bind fun t237 => (if t237 = true then ((spec_l1In.f a0_2 100 300).bind fun t238 => (spec_l22Good.j0 k (!t238) a0_0 l0_1 a0_2)) else (spec_l22Good.j0 k true a0_0 l0_1 a0_2))) else (spec_l22Good.j0 k true a0_0 l0_1 a0_2))) = some r:=h;clear h;have HC2:=am_ H;clear H
 go_enter Tryz.func21,Tryz.ntmps21
 go_upto_region 1 with (((with_reducible refine gate_dst (N:=1) rfl ?_);(try (refine gate_guard (by rfl) ?_;dsimp only));refine box_event ?hg (N:=1) ?hd (cs:=#[.int .i64 a0_0, .slice A0_1 l0_1.length c0_1, .int .i64 a0_2]) (t:=26) ?hr ?_;(case hd => rfl);(case hg => rfl);(case hr => (go_simp;done));intro gb235 hg w3 hbox hb;have n0_:=am_ (below_step (by exact HB.out) hb);have n1_:=am_ hbox;have n2_:=am_ (ge_ hg (by exact HB.out));have n3_:=am_ (ge_ hg (by exact HB.out));clear HB;have HB:=n0_;have BK235:=n1_;have GW235:=n2_;have GE235:=n3_;clear n0_ n1_ n2_ n3_;clear hb hbox hg))
 (skip)
 go_cut [20] (fun v20 wc => ∃ (kq : Nat) (x20_1 : Bool),v20 = .bool x20_1 ∧ Aside0 (spec_l22Good.j0 kq x20_1 a0_0 l0_1 a0_2 = some r) ∧ Aside0 (kq ≤ k) ∧ Aside0 (wc.heap[gb235]? = some (.cells #[.int .i64 a0_0,(.slice A0_1 l0_1.length c0_1), .int .i64 a0_2] 26 (0,0))) ∧ Aside0 (Below w.heap.size w wc))
 case first =>
  have H:=HC2.out;clear HC2;replace H:=Option.bind_eq_some_iff.mp H;obtain ⟨t236,A40,H⟩ := H;replace H : (if t236 = true then ((spec_l1In.f (l0_1.length : Int) 1 6).bind fun t237 => (if t237 = true then ((spec_l1In.f a0_2 100 300).bind fun t238 => (spec_l22Good.j0 k (!t238) a0_0 l0_1 a0_2)) else (spec_l22Good.j0 k true a0_0 l0_1 a0_2))) else (spec_l22Good.j0 k true a0_0 l0_1 a0_2)) = some r:=H;have A4:=am_ A40;clear A40
  by_cases c5 : t236 = true
  ·subst c5
   have H1 : ((spec_l1In.f (l0_1.length : Int) 1 6).bind fun t237 => (if t237 = true then ((spec_l1In.f a0_2 100 300).bind fun t238 => (spec_l22Good.j0 k (!t238) a0_0 l0_1 a0_2)) else (spec_l22Good.j0 k true a0_0 l0_1 a0_2))) = some r:=by rw [if_pos rfl] at H;exact H
   clear H;have H:=H1;clear H1;replace H:=Option.bind_eq_some_iff.mp H;obtain ⟨t237,A60,H⟩ := H;replace H : (if t237 = true then ((spec_l1In.f a0_2 100 300).bind fun t238 => (spec_l22Good.j0 k (!t238) a0_0 l0_1 a0_2)) else (spec_l22Good.j0 k true a0_0 l0_1 a0_2)) = some r:=H;have A6:=am_ A60;clear A60
   by_cases c7 : t237 = true
   ·subst c7
    have H1 : ((spec_l1In.f a0_2 100 300).bind fun t238 => (spec_l22Good.j0 k (!t238) a0_0 l0_1 a0_2)) = some r:=by rw [if_pos rfl] at H;exact H
    clear H;have H:=H1;clear H1;replace H:=Option.bind_eq_some_iff.mp H;obtain ⟨t238,A80,H⟩ := H;replace H : (spec_l22Good.j0 k (!t238) a0_0 l0_1 a0_2) = some r:=H;have A8:=am_ A80;clear A80;have H':=am_ H;clear H;have hcz9_0:=c3_0 BK235.out;have hcz9_1:=c3_1 BK235.out;have hcz9_2:=c3_2 BK235.out;have hfz9_0:=blk_frozen BK235.out 0;have hfz9_1:=blk_frozen BK235.out 1;have hfz9_2:=blk_frozen BK235.out 2
    go_wp2_with (first | ((with_reducible refine gate_callee (f:=43) rfl ?_);refine goesL_ (some 6) rfl rfl Tryz.func43 (by kernel_rfl) rfl #[.int .i64 a0_0, .int .i64 0, .int .i64 30] rfl (by (try simp only [List.map_toArray,List.map_cons,List.map_nil]);rfl) ?_;(with_reducible refine (spec_l1In.calls a0_0 0 30 true _ A4.out).mono ?_);rintro e w' ⟨rfl,⟨nd,rfl⟩⟩;refine ⟨_,rfl, ?_⟩) | (go_at_call 43;(with_reducible refine (spec_l1In.calls (l0_1.length : Int) 1 6 true _ A6.out).mono ?_);rintro e w' ⟨rfl,⟨nd,rfl⟩⟩) | (go_at_call 43;(with_reducible refine (spec_l1In.calls a0_2 100 300 t238 _ A8.out).mono ?_);rintro e w' ⟨rfl,⟨nd,rfl⟩⟩))
    go_meet
    case rel => exact ⟨_,(!t238),(by rfl),H',⟨by omega⟩,⟨by (with_reducible repeat (refine blk_drewN ?_ _));exact BK235.out⟩,⟨by repeat ((with_reducible first | exact HB.out | apply pw_below_drewN))⟩⟩
   ·replace c7:=Bool.eq_false_iff.mpr c7;subst c7
    have H1 : (spec_l22Good.j0 k true a0_0 l0_1 a0_2) = some r:=by rw [if_neg (show ¬ (false = true) by decide)] at H;exact H
    clear H;have H:=H1;clear H1;have H':=am_ H;clear H;have hcz10_0:=c3_0 BK235.out;have hcz10_1:=c3_1 BK235.out;have hcz10_2:=c3_2 BK235.out;have hfz10_0:=blk_frozen BK235.out 0;have hfz10_1:=blk_frozen BK235.out 1;have hfz10_2:=blk_frozen BK235.out 2
    go_wp2_with (first | ((with_reducible refine gate_callee (f:=43) rfl ?_);refine goesL_ (some 6) rfl rfl Tryz.func43 (by kernel_rfl) rfl #[.int .i64 a0_0, .int .i64 0, .int .i64 30] rfl (by (try simp only [List.map_toArray,List.map_cons,List.map_nil]);rfl) ?_;(with_reducible refine (spec_l1In.calls a0_0 0 30 true _ A4.out).mono ?_);rintro e w' ⟨rfl,⟨nd,rfl⟩⟩;refine ⟨_,rfl, ?_⟩) | (go_at_call 43;(with_reducible refine (spec_l1In.calls (l0_1.length : Int) 1 6 false _ A6.out).mono ?_);rintro e w' ⟨rfl,⟨nd,rfl⟩⟩))
    go_meet
    case rel => exact ⟨_,(true),(by rfl),H',⟨by omega⟩,⟨by (with_reducible repeat (refine blk_drewN ?_ _));exact BK235.out⟩,⟨by repeat ((with_reducible first | exact HB.out | apply pw_below_drewN))⟩⟩
  ·replace c5:=Bool.eq_false_iff.mpr c5;subst c5
   have H1 : (spec_l22Good.j0 k true a0_0 l0_1 a0_2) = some r:=by rw [if_neg (show ¬ (false = true) by decide)] at H;exact H
   clear H;have H:=H1;clear H1;have H':=am_ H;clear H;have hcz11_0:=c3_0 BK235.out;have hcz11_1:=c3_1 BK235.out;have hcz11_2:=c3_2 BK235.out;have hfz11_0:=blk_frozen BK235.out 0;have hfz11_1:=blk_frozen BK235.out 1;have hfz11_2:=blk_frozen BK235.out 2
   go_wp2_with (((with_reducible refine gate_callee (f:=43) rfl ?_);refine goesL_ (some 6) rfl rfl Tryz.func43 (by kernel_rfl) rfl #[.int .i64 a0_0, .int .i64 0, .int .i64 30] rfl (by (try simp only [List.map_toArray,List.map_cons,List.map_nil]);rfl) ?_;(with_reducible refine (spec_l1In.calls a0_0 0 30 false _ A4.out).mono ?_);rintro e w' ⟨rfl,⟨nd,rfl⟩⟩;refine ⟨_,rfl, ?_⟩))
   go_meet
   case rel => exact ⟨_,(true),(by rfl),H',⟨by omega⟩,⟨by (with_reducible repeat (refine blk_drewN ?_ _));exact BK235.out⟩,⟨by repeat ((with_reducible first | exact HB.out | apply pw_below_drewN))⟩⟩
 case rest =>
  clear HC2;(try clear c2);(try clear p2);(try clear c4);(try clear c5);(try clear c7);(try clear hcz10_0);(try clear hcz10_1);(try clear hcz10_2);(try clear hcz11_0);(try clear hcz11_1);(try clear hcz11_2);(try clear hcz9_0);(try clear hcz9_1);(try clear hcz9_2);(try clear hfz10_0);(try clear hfz10_1);(try clear hfz10_2);(try clear hfz11_0);(try clear hfz11_1);(try clear hfz11_2);(try clear hfz9_0);(try clear hfz9_1);(try clear hfz9_2);obtain ⟨kq,x20_1,rfl,HA,HJ1,BK235,HB⟩ := hcut
  cases kq with
  | zero => exact absurd HA.out (by simp [spec_l22Good.j0])
  | succ kj1 =>
   have H:=HA.out;clear HA;simp only [spec_l22Good.j0] at H
   by_cases c12 : x20_1 = true
   ·subst c12
    have H1 : (some false) = some r:=by rw [if_pos rfl] at H;exact H
    clear H;have H:=H1;clear H1;obtain rfl:=Option.some.inj H
    go_wp2
    go_ret
    exact ⟨by rfl,by exact HB.out⟩
   ·replace c12:=Bool.eq_false_iff.mpr c12;subst c12
    have H1 : (spec_l22Good.l0 kj1 0 a0_0 l0_1 a0_2) = some r:=by rw [if_neg (show ¬ (false = true) by decide)] at H;exact H
    clear H;have H:=H1;clear H1;have H':=am_ H;clear H
    go_wp2
    (skip)
    go_loopg [3] kj1 (fun kq v3 w' => ∃ (x3_2 : Int),v3 = .int .i64 x3_2 ∧ Aside0 (spec_l22Good.l0 kq x3_2 a0_0 l0_1 a0_2 = some r) ∧ Aside0 (kq ≤ kj1) ∧ Aside0 (w'.heap[gb235]? = some (.cells #[.int .i64 a0_0,(.slice A0_1 l0_1.length c0_1), .int .i64 a0_2] 26 (0,0))) ∧ Aside0 (Below w.heap.size w w'))
    case atStart => exact ⟨(0),(by rfl),H',⟨Nat.le_refl _⟩,⟨by exact BK235.out⟩,⟨by exact HB.out⟩⟩
    case round =>
     clear H';(try clear c1);(try clear c2);(try clear p2);(try clear c4);(try clear c5);(try clear c7);(try clear c12);(try clear hcz10_0);(try clear hcz10_1);(try clear hcz10_2);(try clear hcz11_0);(try clear hcz11_1);(try clear hcz11_2);(try clear hcz9_0);(try clear hcz9_1);(try clear hcz9_2);(try clear hfz10_0);(try clear hfz10_1);(try clear hfz10_2);(try clear hfz11_0);(try clear hfz11_1);(try clear hfz11_2);(try clear hfz9_0);(try clear hfz9_1);(try clear hfz9_2);(try clear p2);obtain ⟨x3_2,rfl,HA,HK2,BK235,HB⟩ := hrel
     cases gk with
     | zero => exact absurd HA.out (by simp [spec_l22Good.l0])
     | succ k2 =>
      have H:=HA.out;clear HA;simp only [spec_l22Good.l0] at H
      by_cases c13 : x3_2 < (l0_1.length : Int)
      ·rw [if_pos c13] at H;have c13b0 : decide (x3_2 < (l0_1.length : Int)) = true:=decide_eq_true c13;clear c13
       by_cases c14 : 0 ≤ x3_2
       ·rw [if_pos c14] at H;have c14b0 : decide (0 ≤ x3_2) = true:=decide_eq_true c14;clear c14;replace H:=Option.bind_eq_some_iff.mp H;obtain ⟨t240,A150,H⟩ := H;replace H : (if t240 = true then ((spec_l1In.f ((rd_T45 l0_1 x3_2).f1) 0 10000).bind fun t242 => (if t242 = true then (spec_l22Good.l0 k2 (wrap64 (x3_2 + 1)) a0_0 l0_1 a0_2) else (some false))) else (some false)) = some r:=H;have A15:=am_ A150;clear A150
        by_cases c16 : t240 = true
        ·subst c16
         have H1 : ((spec_l1In.f ((rd_T45 l0_1 x3_2).f1) 0 10000).bind fun t242 => (if t242 = true then (spec_l22Good.l0 k2 (wrap64 (x3_2 + 1)) a0_0 l0_1 a0_2) else (some false))) = some r:=by rw [if_pos rfl] at H;exact H
         clear H;have H:=H1;clear H1;replace H:=Option.bind_eq_some_iff.mp H;obtain ⟨t242,A170,H⟩ := H;replace H : (if t242 = true then (spec_l22Good.l0 k2 (wrap64 (x3_2 + 1)) a0_0 l0_1 a0_2) else (some false)) = some r:=H;have A17:=am_ A170;clear A170
         by_cases c18 : t242 = true
         ·subst c18
          have H1 : (spec_l22Good.l0 k2 (wrap64 (x3_2 + 1)) a0_0 l0_1 a0_2) = some r:=by rw [if_pos rfl] at H;exact H
          clear H;have H:=H1;clear H1;have H':=am_ H;clear H;have hcz19_0:=c3_0 BK235.out;have hcz19_1:=c3_1 BK235.out;have hcz19_2:=c3_2 BK235.out;have hfz19_0:=blk_frozen BK235.out 0;have hfz19_1:=blk_frozen BK235.out 1;have hfz19_2:=blk_frozen BK235.out 2;have p239 : 0 ≤ (x3_2 : Int):=of_decide_eq_true (by (with_reducible assumption));have q239 : x3_2 < (l0_1.length : Int):=of_decide_eq_true (by (with_reducible assumption));obtain ⟨ad239,e239,hx239_0,hx239_1⟩ := at_T45 HR0_1.out x3_2 p239 q239;cases e239;replace hx239_0:=(HB.out.cell (World.block_lt_of_cell? w _ hx239_0)).trans hx239_0;replace hx239_1:=(HB.out.cell (World.block_lt_of_cell? w _ hx239_1)).trans hx239_1;replace p239:=eq_true p239;replace q239:=eq_true q239
          go_wp2_with (first | ((with_reducible refine gate_callee (f:=43) rfl ?_);refine goesL_ (some 34) rfl rfl Tryz.func43 (by kernel_rfl) rfl #[.int .i64 ((rd_T45 l0_1 x3_2).f0), .int .i64 1, .int .i64 100] rfl (by (try simp only [List.map_toArray,List.map_cons,List.map_nil]);rfl) ?_;(with_reducible refine (spec_l1In.calls ((rd_T45 l0_1 x3_2).f0) 1 100 true _ A15.out).mono ?_);rintro e w' ⟨rfl,⟨nd,rfl⟩⟩;refine ⟨_,rfl, ?_⟩;have p241 : 0 ≤ (x3_2 : Int):=of_decide_eq_true (by (with_reducible assumption));have q241 : x3_2 < (l0_1.length : Int):=of_decide_eq_true (by (with_reducible assumption));obtain ⟨ad241,e241,hx241_0,hx241_1⟩ := at_T45 HR0_1.out x3_2 p241 q241;obtain rfl : ad239 = ad241:=(by injection e241);replace hx241_0:=(HB.out.cell (World.block_lt_of_cell? w _ hx241_0)).trans hx241_0;replace hx241_1:=(HB.out.cell (World.block_lt_of_cell? w _ hx241_1)).trans hx241_1;replace p241:=eq_true p241;replace q241:=eq_true q241) | (go_at_call 43;(with_reducible refine (spec_l1In.calls ((rd_T45 l0_1 x3_2).f1) 0 10000 true _ A17.out).mono ?_);rintro e w' ⟨rfl,⟨nd,rfl⟩⟩))
          go_roundg k2
          case measure => have:=HJ1.out;have:=HK2.out;omega
          case rel => exact ⟨(wrap64 (x3_2 + 1)),(by rfl),H',⟨by have:=HJ1.out;have:=HK2.out;omega⟩,⟨by (with_reducible repeat (refine blk_drewN ?_ _));exact BK235.out⟩,⟨by repeat ((with_reducible first | exact HB.out | apply pw_below_drewN))⟩⟩
         ·replace c18:=Bool.eq_false_iff.mpr c18;subst c18
          have H1 : (some false) = some r:=by rw [if_neg (show ¬ (false = true) by decide)] at H;exact H
          clear H;have H:=H1;clear H1;obtain rfl:=Option.some.inj H;have hcz20_0:=c3_0 BK235.out;have hcz20_1:=c3_1 BK235.out;have hcz20_2:=c3_2 BK235.out;have hfz20_0:=blk_frozen BK235.out 0;have hfz20_1:=blk_frozen BK235.out 1;have hfz20_2:=blk_frozen BK235.out 2;have p239 : 0 ≤ (x3_2 : Int):=of_decide_eq_true (by (with_reducible assumption));have q239 : x3_2 < (l0_1.length : Int):=of_decide_eq_true (by (with_reducible assumption));obtain ⟨ad239,e239,hx239_0,hx239_1⟩ := at_T45 HR0_1.out x3_2 p239 q239;cases e239;replace hx239_0:=(HB.out.cell (World.block_lt_of_cell? w _ hx239_0)).trans hx239_0;replace hx239_1:=(HB.out.cell (World.block_lt_of_cell? w _ hx239_1)).trans hx239_1;replace p239:=eq_true p239;replace q239:=eq_true q239
          go_wp2_with (first | ((with_reducible refine gate_callee (f:=43) rfl ?_);refine goesL_ (some 34) rfl rfl Tryz.func43 (by kernel_rfl) rfl #[.int .i64 ((rd_T45 l0_1 x3_2).f0), .int .i64 1, .int .i64 100] rfl (by (try simp only [List.map_toArray,List.map_cons,List.map_nil]);rfl) ?_;(with_reducible refine (spec_l1In.calls ((rd_T45 l0_1 x3_2).f0) 1 100 true _ A15.out).mono ?_);rintro e w' ⟨rfl,⟨nd,rfl⟩⟩;refine ⟨_,rfl, ?_⟩;have p241 : 0 ≤ (x3_2 : Int):=of_decide_eq_true (by (with_reducible assumption));have q241 : x3_2 < (l0_1.length : Int):=of_decide_eq_true (by (with_reducible assumption));obtain ⟨ad241,e241,hx241_0,hx241_1⟩ := at_T45 HR0_1.out x3_2 p241 q241;obtain rfl : ad239 = ad241:=(by injection e241);replace hx241_0:=(HB.out.cell (World.block_lt_of_cell? w _ hx241_0)).trans hx241_0;replace hx241_1:=(HB.out.cell (World.block_lt_of_cell? w _ hx241_1)).trans hx241_1;replace p241:=eq_true p241;replace q241:=eq_true q241) | (go_at_call 43;(with_reducible refine (spec_l1In.calls ((rd_T45 l0_1 x3_2).f1) 0 10000 false _ A17.out).mono ?_);rintro e w' ⟨rfl,⟨nd,rfl⟩⟩))
          go_ret
          exact ⟨by rfl,by repeat ((with_reducible first | exact HB.out | apply pw_below_drewN))⟩
        ·replace c16:=Bool.eq_false_iff.mpr c16;subst c16
         have H1 : (some false) = some r:=by rw [if_neg (show ¬ (false = true) by decide)] at H;exact H
         clear H;have H:=H1;clear H1;obtain rfl:=Option.some.inj H;have hcz21_0:=c3_0 BK235.out;have hcz21_1:=c3_1 BK235.out;have hcz21_2:=c3_2 BK235.out;have hfz21_0:=blk_frozen BK235.out 0;have hfz21_1:=blk_frozen BK235.out 1;have hfz21_2:=blk_frozen BK235.out 2;have p239 : 0 ≤ (x3_2 : Int):=of_decide_eq_true (by (with_reducible assumption));have q239 : x3_2 < (l0_1.length : Int):=of_decide_eq_true (by (with_reducible assumption));obtain ⟨ad239,e239,hx239_0,hx239_1⟩ := at_T45 HR0_1.out x3_2 p239 q239;cases e239;replace hx239_0:=(HB.out.cell (World.block_lt_of_cell? w _ hx239_0)).trans hx239_0;replace hx239_1:=(HB.out.cell (World.block_lt_of_cell? w _ hx239_1)).trans hx239_1;replace p239:=eq_true p239;replace q239:=eq_true q239
         go_wp2_with (((with_reducible refine gate_callee (f:=43) rfl ?_);refine goesL_ (some 34) rfl rfl Tryz.func43 (by kernel_rfl) rfl #[.int .i64 ((rd_T45 l0_1 x3_2).f0), .int .i64 1, .int .i64 100] rfl (by (try simp only [List.map_toArray,List.map_cons,List.map_nil]);rfl) ?_;(with_reducible refine (spec_l1In.calls ((rd_T45 l0_1 x3_2).f0) 1 100 false _ A15.out).mono ?_);rintro e w' ⟨rfl,⟨nd,rfl⟩⟩;refine ⟨_,rfl, ?_⟩))
         go_ret
         exact ⟨by rfl,by repeat ((with_reducible first | exact HB.out | apply pw_below_drewN))⟩
       ·rw [if_neg c14] at H
        exact absurd H (by simp)
      ·rw [if_neg c13] at H;have c13b0 : decide (x3_2 < (l0_1.length : Int)) = false:=decide_eq_false c13;clear c13;obtain rfl:=Option.some.inj H;have hcz22_0:=c3_0 BK235.out;have hcz22_1:=c3_1 BK235.out;have hcz22_2:=c3_2 BK235.out;have hfz22_0:=blk_frozen BK235.out 0;have hfz22_1:=blk_frozen BK235.out 1;have hfz22_2:=blk_frozen BK235.out 2
       go_wp2
       go_ret
       exact ⟨by rfl,by exact HB.out⟩

end Go.Proofs.YtciecfaeeogdoaaGreatDoor.PFnTariffs
