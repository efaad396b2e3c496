-- Written by a program of this session, over the kit's print (wip/xprint.py)
import Derived.Test.YtglfjaaaegfdnaaPFnExactCloseSlotx0
import Derived.Test.YtglfjaaaegfdnaaPFnExactCloseSlotx2
namespace Go.Proofs.Ytglfjaaaegfdnaa.PFnExactCloseSlot
open Go.RowKit Go.Proofs.YtglfjaaaegfdnaaW.PrintWords Go.Proofs.YtglfjaaaegfdnaaW.PrintLast Go.Proofs.YtglfjaaaegfdnaaW.PrintMore
attribute [local go_sem] max2_int min2_int max_two min_two max_three min_three max_four min_four   -- for this text's walks alone
set_option linter.unusedVariables false
set_option linter.unusedSimpArgs false

/-! ### impl_CloseSlot: function 23 -/
mutual
def impl_CloseSlot.l0 : Nat → Int → List Int → List Int → Int → Int → List Int → List (List Int) → Option (List Int × (List (List Int)) × List Int × Bool)
 | 0,_,_,_,_,_,_,_ => none
 | k + 1,x1,x9,x36,x37,x38,x154000,x154001 => if x38 < x37 then (if 0 ≤ x38 then (if x38 < (x36.length : Int) then (impl_CloseSlot.l1 k x1 x9 (rd x36 x38) (-1) x36 x37 x38 (x154001.length : Int) 0 x154000 x154001) else (none)) else (none)) else (some (x154000,x154001,x9,true))
def impl_CloseSlot.l1 : Nat → Int → List Int → Int → Int → List Int → Int → Int → Int → Int → List Int → List (List Int) → Option (List Int × (List (List Int)) × List Int × Bool)
 | 0,_,_,_,_,_,_,_,_,_,_,_ => none
 | k + 1,x1,x9,x11,x12,x36,x37,x38,x44,x45,x154000,x154001 => if x45 < x44 then (if 0 ≤ x45 then (if x45 < (x154001.length : Int) then (if x45 < (x154000.length : Int) then (if ((rd_L1 x154001 x45).length : Int) < (rd x154000 x45) then (if x12 < 0 then (impl_CloseSlot.l1 k x1 x9 x11 x45 x36 x37 x38 x44 (wrap64 (x45 + 1)) x154000 x154001) else ((impl_size.f (wrap64 (x45 - x1))).bind fun t170 => ((impl_size.f (wrap64 (x12 - x1))).bind fun t171 => (if t170 < t171 then (impl_CloseSlot.l1 k x1 x9 x11 x45 x36 x37 x38 x44 (wrap64 (x45 + 1)) x154000 x154001) else (impl_CloseSlot.l1 k x1 x9 x11 x12 x36 x37 x38 x44 (wrap64 (x45 + 1)) x154000 x154001))))) else (impl_CloseSlot.l1 k x1 x9 x11 x12 x36 x37 x38 x44 (wrap64 (x45 + 1)) x154000 x154001)) else (none)) else (none)) else (none)) else (if x12 < 0 then (if x9.length < 17592186044416 then (impl_CloseSlot.l0 k x1 (x9 ++ [x11]) x36 x37 (wrap64 (x38 + 1)) x154000 x154001) else (none)) else ((impl_Gate_put.f x154000 x154001 x11 x12).bind fun t167 => (impl_CloseSlot.l0 k x1 x9 x36 x37 (wrap64 (x38 + 1)) x154000 t167)))
end
def impl_CloseSlot.f (k : Nat) (l0_0 : List Int) (l0_1 : List (List Int)) (a1 : Int) : Option (List Int × (List (List Int)) × List Int × Bool):=(impl_isGateFor.f k l0_0 l0_1 1 (([a1] : List Int))).bind fun t146 => (if t146 = true then ((impl_ownGate.f k l0_0 l0_1).bind fun bt147 => (if 0 ≤ a1 then (if a1 < (bt147.2.length : Int) then ((slices_Clone_int.f (rd_L1 bt147.2 a1)).bind fun t155 => (if a1 < (bt147.1.length : Int) then (impl_CloseSlot.l0 k a1 (([] : List Int)) t155 (t155.length : Int) 0 (bt147.1.set (a1 : Int).toNat 0) (bt147.2.set (a1 : Int).toNat ([] : List Int))) else (none))) else (none)) else (none))) else (some (([] : List Int),([] : List (List Int)),([] : List Int),false)))
theorem impl_CloseSlot.mono_l : ∀ k,(∀ y0 y1 y2 y3 y4 y5 y6,LeO (impl_CloseSlot.l0 k y0 y1 y2 y3 y4 y5 y6) (impl_CloseSlot.l0 (k + 1) y0 y1 y2 y3 y4 y5 y6)) ∧ (∀ y0 y1 y2 y3 y4 y5 y6 y7 y8 y9 y10,LeO (impl_CloseSlot.l1 k y0 y1 y2 y3 y4 y5 y6 y7 y8 y9 y10) (impl_CloseSlot.l1 (k + 1) y0 y1 y2 y3 y4 y5 y6 y7 y8 y9 y10))
 | 0 => ⟨fun _ _ _ _ _ _ _ r h => by simp [impl_CloseSlot.l0] at h,fun _ _ _ _ _ _ _ _ _ _ _ r h => by simp [impl_CloseSlot.l1] at h⟩
 | k + 1 => by
  obtain ⟨ih0,ih1⟩ := impl_CloseSlot.mono_l k;refine ⟨?_, ?_⟩
  ·intro y0 y1 y2 y3 y4 y5 y6
   unfold impl_CloseSlot.l0
   repeat' first
   | (with_reducible exact ih0 _ _ _ _ _ _ _)
   | (with_reducible exact ih1 _ _ _ _ _ _ _ _ _ _ _)
   | (with_reducible exact impl_isGateFor.mono _ _ _ _ _)
   | (with_reducible exact impl_ownGate.mono _ _ _)
   | (with_reducible exact LeO.refl _)
   | (with_reducible exact LeO.none _)
   | (with_reducible refine LeO.ite ?_ ?_)
   | (with_reducible refine LeO.bind ?_ (fun _ => ?_))
   | exact ih0 _ _ _ _ _ _ _
   | exact ih1 _ _ _ _ _ _ _ _ _ _ _
   | exact impl_isGateFor.mono _ _ _ _ _
   | exact impl_ownGate.mono _ _ _
   | exact LeO.none _
   | refine LeO.ite ?_ ?_
   | refine LeO.bind ?_ (fun _ => ?_)
  ·intro y0 y1 y2 y3 y4 y5 y6 y7 y8 y9 y10
   unfold impl_CloseSlot.l1
   repeat' first
   | (with_reducible exact ih0 _ _ _ _ _ _ _)
   | (with_reducible exact ih1 _ _ _ _ _ _ _ _ _ _ _)
   | (with_reducible exact impl_isGateFor.mono _ _ _ _ _)
   | (with_reducible exact impl_ownGate.mono _ _ _)
   | (with_reducible exact LeO.refl _)
   | (with_reducible exact LeO.none _)
   | (with_reducible refine LeO.ite ?_ ?_)
   | (with_reducible refine LeO.bind ?_ (fun _ => ?_))
   | exact ih0 _ _ _ _ _ _ _
   | exact ih1 _ _ _ _ _ _ _ _ _ _ _
   | exact impl_isGateFor.mono _ _ _ _ _
   | exact impl_ownGate.mono _ _ _
   | exact LeO.none _
   | refine LeO.ite ?_ ?_
   | refine LeO.bind ?_ (fun _ => ?_)
theorem impl_CloseSlot.mono : ∀ a0 a1 a2 k,LeO (impl_CloseSlot.f k a0 a1 a2) (impl_CloseSlot.f (k + 1) a0 a1 a2):=by
 intro a0 a1 a2 k;obtain ⟨ih0,ih1⟩ := impl_CloseSlot.mono_l k
 unfold impl_CloseSlot.f
 repeat' first
   | (with_reducible exact ih0 _ _ _ _ _ _ _)
   | (with_reducible exact ih1 _ _ _ _ _ _ _ _ _ _ _)
   | (with_reducible exact impl_isGateFor.mono _ _ _ _ _)
   | (with_reducible exact impl_ownGate.mono _ _ _)
   | (with_reducible exact LeO.refl _)
   | (with_reducible exact LeO.none _)
   | (with_reducible refine LeO.ite ?_ ?_)
   | (with_reducible refine LeO.bind ?_ (fun _ => ?_))
   | exact ih0 _ _ _ _ _ _ _
   | exact ih1 _ _ _ _ _ _ _ _ _ _ _
   | exact impl_isGateFor.mono _ _ _ _ _
   | exact impl_ownGate.mono _ _ _
   | exact LeO.none _
   | refine LeO.ite ?_ ?_
   | refine LeO.bind ?_ (fun _ => ?_)
def impl_CloseSlot.T14 : Bool × List (List Nat × List Nat):=(true,[([],[]),([0],[0]),([],[]),([1,2],[1,2]),([3],[3]),([4],[4]),([],[]),([6],[6]),([],[]),([7,8],[7,8]),([9],[9]),([5,10],[5,10]),([11],[11]),([12],[12]),([13,12],[12,13]),([14,12,12],[12,14]),([15],[15]),([15],[15]),([16,17,15],[15,16,17]),([18,15,15],[15,18]),([15],[15]),([15],[15]),([20,21,15],[15,20,21]),([22,19,15],[15,22]),([19,23,15],[15,19,23]),([15,24,12],[12,15,24]),([12,25],[12,25])])
def impl_CloseSlot.B14 : List Nat := [0,1,0,7,15,31,0,64,0,448,960,2047,4095,8191,16383,32767,65535,65535,262143,524287,65535,65535,3211263,8388607,16777215,33554431,67108863]
theorem impl_CloseSlot.tab14 : rtab .any (opsOf Try.f23 14) = impl_CloseSlot.T14:=by kernel_rfl
theorem impl_CloseSlot.bits14 : waitsOk impl_CloseSlot.T14.2 impl_CloseSlot.B14 = true:=by kernel_rfl
def impl_CloseSlot.T5 : Bool × List (List Nat × List Nat):=(true,[([],[]),([0],[0]),([],[]),([],[]),([3],[3]),([],[]),([1,2,0,1,2],[1,2]),([6,0,1,2],[6]),([4,5,0,1,2,3,4,5,6,7],[4,5]),([8,7,0,1,2,3,4,5,6,7],[8])])
def impl_CloseSlot.B5 : List Nat := [0,1,0,0,8,0,7,71,255,511]
theorem impl_CloseSlot.tab5 : rtab .any (opsOf Try.f23 5) = impl_CloseSlot.T5:=by kernel_rfl
theorem impl_CloseSlot.bits5 : waitsOk impl_CloseSlot.T5.2 impl_CloseSlot.B5 = true:=by kernel_rfl
theorem H_gone_ {α : Type} {d : Kd α} {e base : Nat} {W : World} {ok oki : Nat → Prop} {v : Value} {xs : List α} {i : Int} {c : List Value} (h : Kd.H d e W base ok v xs i oki c) : Kd.H d e W base (fun k => ok k ∧ ¬ oki k) v xs i (fun _ => False) c:=by
 obtain ⟨_,f,h⟩ := h
 exact ⟨fun _ hk => hk.elim,f,Kd.R_mono h (fun k hk => ⟨⟨hk.1,hk.2⟩,fun h => h⟩)⟩
theorem clone_eq_ {x y : List Int} (h : slices_Clone_int.f x = some y) : x = y:=by
 unfold slices_Clone_int.f at h
 rw [Option.bind_some] at h
 split at h
 ·exact (List.nil_append x).symm.trans (Option.some.inj h)
 ·cases h
set_option maxHeartbeats 8000000 in
set_option maxRecDepth 100000 in
theorem impl_CloseSlot.calls (k : Nat) (A0_0 : Option Addr) (c0_0 : Nat) (l0_0 : List Int) (A0_1 : Option Addr) (c0_1 : Nat) (l0_1 : List (List Int)) (a1 : Int) (r1 : List Int) (r2 : List (List Int)) (r3 : List Int) (r4 : Bool) (w : World) (hr0_0 : Kd.C (Kd.int .i64) w A0_0 l0_0.length l0_0) (hc0_0 : l0_0.length ≤ c0_0) (hr0_1 : Kd.C (Kd.slice 3 (Kd.int .i64)) w A0_1 l0_1.length l0_1) (hc0_1 : l0_1.length ≤ c0_1) (h : impl_CloseSlot.f k l0_0 l0_1 a1 = some (r1,r2,r3,r4)) :
  Calls Try.prog 23 #[.agg #[.slice A0_0 l0_0.length c0_0, .slice A0_1 l0_1.length c0_1], .int .i64 a1] w fun e w' => ∃ v0_ v1_ v2_ : Value,e = .returned (.tuple #[.agg #[v0_,v1_],v2_, .bool r4]) ∧ Kd.R (Kd.int .i64) 3 w' w.heap.size (fun k_ => some k_ ≠ (v2_ : Value).ownBlock) v0_ r1 ∧ Kd.S (Kd.slice 3 (Kd.int .i64)) 24 w' w.heap.size (fun k_ => some k_ ≠ (v0_ : Value).ownBlock ∧ some k_ ≠ (v2_ : Value).ownBlock) v1_ r2 ∧ Kd.R (Kd.int .i64) 3 w' w.heap.size (fun k_ => some k_ ≠ (v0_ : Value).ownBlock) v2_ r3 ∧ Below w.heap.size w w':=by
 have hu27:=Try.underlying27;have HR0_0:=am_ hr0_0;have HC0_0:=am_ hc0_0;clear hr0_0 hc0_0;have HR0_1:=am_ hr0_1;have HC0_1:=am_ hc0_1;clear hr0_1 hc0_1;have HB:=am_ (Below.refl w.heap.size w);have H : ((impl_isGateFor.f k l0_0 l0_1 1 (([a1] : List Int))).bind fun t146 => (if t146 = true then ((impl_ownGate.f k l0_0 l0_1).bind fun bt147 => (if 0 ≤ a1 then (if a1 < (bt147.2.length : Int) then ((slices_Clone_int.f (rd_L1 bt147.2 a1)).bind fun t155 => (if a1 < (bt147.1.length : Int) then (impl_CloseSlot.l0 k a1 (([] : List Int)) t155 (t155.length : Int) 0 (bt147.1.set (a1 : Int).toNat 0) (bt147.2.set (a1 : Int).toNat ([] : List Int))) else (none))) else (none)) else (none))) else (some (([] : List Int),([] : List (List Int)),([] : List Int),false)))) = some (r1,r2,r3,r4):=h;clear h;obtain ⟨y143,hy143⟩ : ∃ y_ : List Int,y_ = (([a1] : List Int)):=⟨_,rfl⟩
 replace H : ((impl_isGateFor.f k l0_0 l0_1 1 y143).bind fun t146 => (if t146 = true then ((impl_ownGate.f k l0_0 l0_1).bind fun bt147 => (if 0 ≤ a1 then (if a1 < (bt147.2.length : Int) then ((slices_Clone_int.f (rd_L1 bt147.2 a1)).bind fun t155 => (if a1 < (bt147.1.length : Int) then (impl_CloseSlot.l0 k a1 (([] : List Int)) t155 (t155.length : Int) 0 (bt147.1.set (a1 : Int).toNat 0) (bt147.2.set (a1 : Int).toNat ([] : List Int))) else (none))) else (none)) else (none))) else (some (([] : List Int),([] : List (List Int)),([] : List Int),false)))) = some (r1,r2,r3,r4):=by first | (rw [hy143];with_reducible exact H) | (have H2_:=(Option.bind_some _ _).symm.trans H;rw [hy143];with_reducible exact H2_) | (have H2_:=(Option.bind_some _ _).symm.trans H;with_reducible exact H2_) | with_reducible exact H | (rw [hy143];exact H) | exact H
 have Ny143:=am_ hy143;clear hy143;replace H:=Option.bind_eq_some_iff.mp H;obtain ⟨t146,A30,H⟩ := H;replace H : (if t146 = true then ((impl_ownGate.f k l0_0 l0_1).bind fun bt147 => (if 0 ≤ a1 then (if a1 < (bt147.2.length : Int) then ((slices_Clone_int.f (rd_L1 bt147.2 a1)).bind fun t155 => (if a1 < (bt147.1.length : Int) then (impl_CloseSlot.l0 k a1 (([] : List Int)) t155 (t155.length : Int) 0 (bt147.1.set (a1 : Int).toNat 0) (bt147.2.set (a1 : Int).toNat ([] : List Int))) else (none))) else (none)) else (none))) else (some (([] : List Int),([] : List (List Int)),([] : List Int),false))) = some (r1,r2,r3,r4):=H;have A3:=am_ A30;clear A30
 by_cases c4 : t146 = true
 ·subst c4
  have H1 : ((impl_ownGate.f k l0_0 l0_1).bind fun bt147 => (if 0 ≤ a1 then (if a1 < (bt147.2.length : Int) then ((slices_Clone_int.f (rd_L1 bt147.2 a1)).bind fun t155 => (if a1 < (bt147.1.length : Int) then (impl_CloseSlot.l0 k a1 (([] : List Int)) t155 (t155.length : Int) 0 (bt147.1.set (a1 : Int).toNat 0) (bt147.2.set (a1 : Int).toNat ([] : List Int))) else (none))) else (none)) else (none))) = some (r1,r2,r3,r4):=by rw [if_pos rfl] at H;exact H
  clear H;have H:=H1;clear H1;replace H:=Option.bind_eq_some_iff.mp H;obtain ⟨⟨t147,t150⟩,A50,H⟩ := H;replace H : (if 0 ≤ a1 then (if a1 < (t150.length : Int) then ((slices_Clone_int.f (rd_L1 t150 a1)).bind fun t155 => (if a1 < (t147.length : Int) then (impl_CloseSlot.l0 k a1 (([] : List Int)) t155 (t155.length : Int) 0 (t147.set (a1 : Int).toNat 0) (t150.set (a1 : Int).toNat ([] : List Int))) else (none))) else (none)) else (none)) = some (r1,r2,r3,r4):=H;have A5:=am_ A50;clear A50
  by_cases c6 : 0 ≤ a1
  ·rw [if_pos c6] at H;have c6b0 : decide (0 ≤ a1) = true:=decide_eq_true c6;clear c6
   by_cases c7 : a1 < (t150.length : Int)
   ·rw [if_pos c7] at H;have c7b0 : decide (a1 < (t150.length : Int)) = true:=decide_eq_true c7;clear c7;replace H:=Option.bind_eq_some_iff.mp H;obtain ⟨t155,A80,H⟩ := H;replace H : (if a1 < (t147.length : Int) then (impl_CloseSlot.l0 k a1 (([] : List Int)) t155 (t155.length : Int) 0 (t147.set (a1 : Int).toNat 0) (t150.set (a1 : Int).toNat ([] : List Int))) else (none)) = some (r1,r2,r3,r4):=H;have A8:=am_ A80;clear A80
    by_cases c9 : a1 < (t147.length : Int)
    ·rw [if_pos c9] at H;have c9b0 : decide (a1 < (t147.length : Int)) = true:=decide_eq_true c9;clear c9;obtain ⟨y158,hy158⟩ : ∃ y_ : List Int,y_ = (t147.set (a1 : Int).toNat 0):=⟨_,rfl⟩
     replace H : (impl_CloseSlot.l0 k a1 (([] : List Int)) t155 (t155.length : Int) 0 y158 (t150.set (a1 : Int).toNat ([] : List Int))) = some (r1,r2,r3,r4):=by first | (rw [hy158];with_reducible exact H) | (have H2_:=(Option.bind_some _ _).symm.trans H;rw [hy158];with_reducible exact H2_) | (have H2_:=(Option.bind_some _ _).symm.trans H;with_reducible exact H2_) | with_reducible exact H | (rw [hy158];exact H) | exact H
     have Ny158:=am_ hy158;clear hy158;obtain ⟨y159,hy159⟩ : ∃ y_ : List (List Int),y_ = (t150.set (a1 : Int).toNat ([] : List Int)):=⟨_,rfl⟩
     replace H : (impl_CloseSlot.l0 k a1 (([] : List Int)) t155 (t155.length : Int) 0 y158 y159) = some (r1,r2,r3,r4):=by first | (rw [hy159];with_reducible exact H) | (have H2_:=(Option.bind_some _ _).symm.trans H;rw [hy159];with_reducible exact H2_) | (have H2_:=(Option.bind_some _ _).symm.trans H;with_reducible exact H2_) | with_reducible exact H | (rw [hy159];exact H) | exact H
     have Ny159:=am_ hy159;clear hy159;obtain ⟨y160,hy160⟩ : ∃ y_ : List Int,y_ = (([] : List Int)):=⟨_,rfl⟩
     replace H : (impl_CloseSlot.l0 k a1 y160 t155 (t155.length : Int) 0 y158 y159) = some (r1,r2,r3,r4):=by first | (rw [hy160];with_reducible exact H) | (have H2_:=(Option.bind_some _ _).symm.trans H;rw [hy160];with_reducible exact H2_) | (have H2_:=(Option.bind_some _ _).symm.trans H;with_reducible exact H2_) | with_reducible exact H | (rw [hy160];exact H) | exact H
     have Ny160:=am_ hy160;clear hy160;have H':=am_ H;clear H
     go_enter Try.func23,Try.ntmps23
     go_upto_region 5 with (first | ((with_reducible refine gate_dst (N:=2) rfl ?_);refine box_event ?hg (N:=2) ?hd (cs:=#[.slice A0_0 l0_0.length c0_0, .slice A0_1 l0_1.length c0_1]) (t:=27) ?hr ?_;(case hd => rfl);(case hg => rfl);(case hr => first | (go_simp;done) | (go_simp;rfl));intro gb141 hg w12 hbox hb;have n0_:=am_ (below_step (by repeat (first | (with_reducible first | exact HB.out | apply below_alloc | apply pw_below_drewN | apply below_drew1) | exact HB.out)) hb);have n1_:=am_ hbox;have n2_:=am_ ((by rw [hg];exact (below_size (by repeat (first | (with_reducible first | exact HB.out | apply below_alloc | apply pw_below_drewN | apply below_drew1) | exact HB.out))) : w.heap.size ≤ gb141));have n3_:=am_ ((by rw [hg];exact (below_size (by repeat (first | (with_reducible first | exact HB.out | apply below_alloc | apply pw_below_drewN | apply below_drew1) | exact HB.out))) : w.heap.size ≤ gb141));clear HB;have HB:=n0_;have BK141:=n1_;have GW141:=n2_;have GE141:=n3_;clear n0_ n1_ n2_ n3_;clear hb hbox hg) | ((with_reducible refine gate_dst (N:=4) rfl ?_);refine box_event ?hg (N:=4) ?hd (cs:=#[.slice none 0 0, .slice none 0 0]) (t:=27) ?hr ?_;(case hd => rfl);(case hg => rfl);(case hr => first | (go_simp;done) | (go_simp;rfl));intro gb142 hg w13 hbox hb;have n0_:=am_ (blk_below (g:=gb141) (o := .cells #[.slice A0_0 l0_0.length c0_0, .slice A0_1 l0_1.length c0_1] 27 (0,0)) (by (with_reducible repeat (first | refine blk_drewN ?_ _ | refine blk_drew ?_ | refine blk_alloc ?_ _));exact BK141.out) hb);have n1_:=am_ (below_step (by repeat (first | (with_reducible first | exact HB.out | apply below_alloc | apply pw_below_drewN | apply below_drew1 | refine below_set ?_ GE141.out) | exact HB.out)) hb);have n2_:=am_ hbox;have n3_:=am_ ((by rw [hg];exact (below_size (by repeat (first | (with_reducible first | exact HB.out | apply below_alloc | apply pw_below_drewN | apply below_drew1 | refine below_set ?_ GE141.out) | exact HB.out))) : w.heap.size ≤ gb142));have n4_:=am_ ((by rw [hg];exact (below_size (by repeat (first | (with_reducible first | exact HB.out | apply below_alloc | apply pw_below_drewN | apply below_drew1 | refine below_set ?_ GE141.out) | exact HB.out))) : w.heap.size ≤ gb142));have n5_:=am_ ((by rw [hg];exact Nat.ne_of_lt (blk_lt (g:=gb141) (o := .cells #[.slice A0_0 l0_0.length c0_0, .slice A0_1 l0_1.length c0_1] 27 (0,0)) (by (with_reducible repeat (first | refine blk_drewN ?_ _ | refine blk_drew ?_ | refine blk_alloc ?_ _));exact BK141.out)) : gb141 ≠ gb142));have n6_:=am_ ((by rw [hg];exact Nat.ne_of_gt (blk_lt (g:=gb141) (o := .cells #[.slice A0_0 l0_0.length c0_0, .slice A0_1 l0_1.length c0_1] 27 (0,0)) (by (with_reducible repeat (first | refine blk_drewN ?_ _ | refine blk_drew ?_ | refine blk_alloc ?_ _));exact BK141.out)) : gb142 ≠ gb141));clear BK141;clear HB;have BK141:=n0_;have HB:=n1_;have BK142:=n2_;have GW142:=n3_;have GE142:=n4_;have NB141_142:=n5_;have NB142_141:=n6_;clear n0_ n1_ n2_ n3_ n4_ n5_ n6_;clear hb hbox hg;have hnb14:=NB141_142.out;have hnc14:=NB142_141.out;have hcz15_0:=c2_0 BK141.out;have hcz15_1:=c2_1 BK141.out;have hfz15_0:=blk_frozen BK141.out 0;have hfz15_1:=blk_frozen BK141.out 1) | ((with_reducible refine gate_dst (N:=16) rfl ?_);refine Kd.R_lit (Kd.int .i64) _ 3 ?hg (N:=16) ?hd (xs:=([a1] : List Int)) (inner := [.int .i64 a1]) (ok:=fun _ => True) (okp:=fun _ => True) ?hr ?hp (fun _ hk => hk) trivial (Below.refl _ _) (Nat.le_refl _) (by simp) ?_;(case hd => rfl);(case hg => rfl);(case hr => first | (go_simp;done) | (go_simp;rfl));(case hp => exact (Reps.one (show Kd.M (Kd.int .i64) _ _ _ a1 [.int .i64 a1] from rfl) (Reps.none _ _)));intro v144 w16 ho17 hb hg_ hnew_;clear hg_ hnew_;(first | rw [← Ny143.out] at ho17 | (simp only [Int.reduceToNat] at ho17;rw [← Ny143.out] at ho17));have n0_:=am_ (Kd.R_lower ho17 (below_size (by repeat (first | (with_reducible first | exact HB.out | apply below_alloc | apply pw_below_drewN | apply below_drew1 | refine below_set ?_ GE141.out | refine below_set ?_ GE142.out) | exact HB.out))));have n1_:=am_ (blk_below (g:=gb141) (o := .cells #[.slice A0_0 l0_0.length c0_0, .slice A0_1 l0_1.length c0_1] 27 (0,0)) (by (with_reducible repeat (first | refine blk_drewN ?_ _ | refine blk_drew ?_ | refine blk_alloc ?_ _));exact BK141.out) hb);have n2_:=am_ (blk_below (g:=gb142) (o := .cells #[.slice none 0 0, .slice none 0 0] 27 (0,0)) (by (with_reducible repeat (first | refine blk_drewN ?_ _ | refine blk_drew ?_ | refine blk_alloc ?_ _));exact BK142.out) hb);have n3_:=am_ (below_step (by repeat (first | (with_reducible first | exact HB.out | apply below_alloc | apply pw_below_drewN | apply below_drew1 | refine below_set ?_ GE141.out | refine below_set ?_ GE142.out) | exact HB.out)) hb);clear BK141;clear BK142;clear HB;have HO145:=n0_;have BK141:=n1_;have BK142:=n2_;have HB:=n3_;clear n0_ n1_ n2_ n3_;clear hb ho17;obtain ⟨Ao18,co18,eo18⟩ := Kd.R_slice HO145.out;subst eo18) | ((with_reducible refine gate_callee (f:=42) rfl ?_);refine goesL_ (some 17) rfl rfl Try.func42 (by kernel_rfl) rfl #[.agg #[.slice A0_0 l0_0.length c0_0, .slice A0_1 l0_1.length c0_1], .int .i64 1, .slice Ao18 y143.length co18] rfl (by (try simp only [List.map_toArray,List.map_cons,List.map_nil]);first | done | rfl | (simp only [List.length_drop,List.length_take];rfl)) ?_;(with_reducible refine (impl_isGateFor.calls k _ _ l0_0 _ _ l0_1 1 _ _ y143 true _ ?side1 ?side2 ?side3 ?side4 ?side5 ?side6 A3.out).mono ?_);(case side1 => repeat (first | exact (Kd.C_below HR0_0.out HB.out) | (with_reducible refine Kd.C_alloc ?_ _) | (with_reducible refine Kd.C_drewN ?_ _) | (with_reducible refine Kd.C_drew ?_)));(case side2 => exact HC0_0.out);(case side3 => repeat (first | exact (Kd.C_below HR0_1.out HB.out) | (with_reducible refine Kd.C_alloc ?_ _) | (with_reducible refine Kd.C_drewN ?_ _) | (with_reducible refine Kd.C_drew ?_)));(case side4 => exact HC0_1.out);(case side5 => repeat (first | exact (Kd.R_reads' HO145.out).2.2 | (with_reducible refine Kd.C_alloc ?_ _) | (with_reducible refine Kd.C_drewN ?_ _) | (with_reducible refine Kd.C_drew ?_)));(case side6 => exact (Kd.R_reads' HO145.out).2.1);rintro e w19 ⟨rfl,hb⟩;refine ⟨_,rfl, ?_⟩;have n0_:=am_ (Kd.R_below (by (with_reducible repeat (first | apply Kd.R_alloc | apply Kd.R_drewN | apply Kd.R_drew));exact HO145.out) hb);have n1_:=am_ (blk_below (g:=gb141) (o := .cells #[.slice A0_0 l0_0.length c0_0, .slice A0_1 l0_1.length c0_1] 27 (0,0)) (by (with_reducible repeat (first | refine blk_drewN ?_ _ | refine blk_drew ?_ | refine blk_alloc ?_ _));exact BK141.out) hb);have n2_:=am_ (blk_below (g:=gb142) (o := .cells #[.slice none 0 0, .slice none 0 0] 27 (0,0)) (by (with_reducible repeat (first | refine blk_drewN ?_ _ | refine blk_drew ?_ | refine blk_alloc ?_ _));exact BK142.out) hb);have n3_:=am_ (below_step (by repeat (first | (with_reducible first | exact HB.out | apply below_alloc | apply pw_below_drewN | apply below_drew1 | refine below_set ?_ GE141.out | refine below_set ?_ GE142.out) | exact HB.out)) hb);clear HO145;clear BK141;clear BK142;clear HB;have HO145:=n0_;have BK141:=n1_;have BK142:=n2_;have HB:=n3_;clear n0_ n1_ n2_ n3_;(try clear hb);(try clear hb2);(try clear hk);(try clear hi);have hcz20_0:=c2_0 BK141.out;have hcz20_1:=c2_1 BK141.out;have hfz20_0:=blk_frozen BK141.out 0;have hfz20_1:=blk_frozen BK141.out 1) | ((with_reducible refine gate_callee (f:=44) rfl ?_);refine goesL_ (some 21) rfl rfl Try.func44 (by kernel_rfl) rfl #[.agg #[.slice A0_0 l0_0.length c0_0, .slice A0_1 l0_1.length c0_1]] rfl (by (try simp only [List.map_toArray,List.map_cons,List.map_nil]);first | done | rfl | (simp only [List.length_drop,List.length_take];rfl)) ?_;(with_reducible refine (impl_ownGate.calls k _ _ l0_0 _ _ l0_1 t147 t150 _ ?side1 ?side2 ?side3 ?side4 A5.out).mono ?_);(case side1 => repeat (first | exact (Kd.C_below HR0_0.out HB.out) | (with_reducible refine Kd.C_alloc ?_ _) | (with_reducible refine Kd.C_drewN ?_ _) | (with_reducible refine Kd.C_drew ?_)));(case side2 => exact HC0_0.out);(case side3 => repeat (first | exact (Kd.C_below HR0_1.out HB.out) | (with_reducible refine Kd.C_alloc ?_ _) | (with_reducible refine Kd.C_drewN ?_ _) | (with_reducible refine Kd.C_drew ?_)));(case side4 => exact HC0_1.out);rintro e w21 ⟨v148,v151,rfl,ho0,ho1,hb⟩;refine ⟨_,rfl, ?_⟩;have n0_:=am_ (Kd.R_elder' (by (with_reducible repeat (first | apply Kd.R_alloc | apply Kd.R_drewN | apply Kd.R_drew));exact HO145.out) (Kd.R_base ho0) hb);have n1_:=am_ (Kd.R_lower (Kd.R_new' ho0 (Kd.R_lt (by (with_reducible repeat (first | apply Kd.R_alloc | apply Kd.R_drewN | apply Kd.R_drew));exact HO145.out))) (below_size (by repeat (first | (with_reducible first | exact HB.out | apply below_alloc | apply pw_below_drewN | apply below_drew1 | refine below_set ?_ GE141.out | refine below_set ?_ GE142.out) | exact HB.out))));have n2_:=am_ (Kd.S_lower (Kd.S_new' ho1 (Kd.R_lt (by (with_reducible repeat (first | apply Kd.R_alloc | apply Kd.R_drewN | apply Kd.R_drew));exact HO145.out))) (below_size (by repeat (first | (with_reducible first | exact HB.out | apply below_alloc | apply pw_below_drewN | apply below_drew1 | refine below_set ?_ GE141.out | refine below_set ?_ GE142.out) | exact HB.out))));have n3_:=am_ (blk_below (g:=gb141) (o := .cells #[.slice A0_0 l0_0.length c0_0, .slice A0_1 l0_1.length c0_1] 27 (0,0)) (by (with_reducible repeat (first | refine blk_drewN ?_ _ | refine blk_drew ?_ | refine blk_alloc ?_ _));exact BK141.out) hb);have n4_:=am_ (blk_below (g:=gb142) (o := .cells #[.slice none 0 0, .slice none 0 0] 27 (0,0)) (by (with_reducible repeat (first | refine blk_drewN ?_ _ | refine blk_drew ?_ | refine blk_alloc ?_ _));exact BK142.out) hb);have n5_:=am_ (below_step (by repeat (first | (with_reducible first | exact HB.out | apply below_alloc | apply pw_below_drewN | apply below_drew1 | refine below_set ?_ GE141.out | refine below_set ?_ GE142.out) | exact HB.out)) hb);clear HO145;clear BK141;clear BK142;clear HB;have HO145:=n0_;have HO149:=n1_;have HO152:=n2_;have BK141:=n3_;have BK142:=n4_;have HB:=n5_;clear n0_ n1_ n2_ n3_ n4_ n5_;(try clear hb);(try clear hb2);(try clear hk);(try clear hi);(try clear ho0);(try clear ho1)) | ((with_reducible refine gate_dst (N:=7) rfl ?_);refine box_event ?hg (N:=7) ?hd (cs:=#[.slice none 0 0, .slice none 0 0]) (t:=27) ?hr ?_;(case hd => rfl);(case hg => rfl);(case hr => first | (go_simp;done) | (go_simp;rfl));intro gb153 hg w22 hbox hb;have n0_:=am_ (Kd.R_below (by (with_reducible repeat (first | apply Kd.R_alloc | apply Kd.R_drewN | apply Kd.R_drew));exact HO145.out) hb);have n1_:=am_ (Kd.R_below (by (with_reducible repeat (first | apply Kd.R_alloc | apply Kd.R_drewN | apply Kd.R_drew));exact HO149.out) hb);have n2_:=am_ (Kd.S_below (by (with_reducible repeat (first | apply Kd.S_alloc | apply Kd.S_drewN | apply Kd.S_drew));exact HO152.out) hb);have n3_:=am_ (blk_below (g:=gb141) (o := .cells #[.slice A0_0 l0_0.length c0_0, .slice A0_1 l0_1.length c0_1] 27 (0,0)) (by (with_reducible repeat (first | refine blk_drewN ?_ _ | refine blk_drew ?_ | refine blk_alloc ?_ _));exact BK141.out) hb);have n4_:=am_ (blk_below (g:=gb142) (o := .cells #[.slice none 0 0, .slice none 0 0] 27 (0,0)) (by (with_reducible repeat (first | refine blk_drewN ?_ _ | refine blk_drew ?_ | refine blk_alloc ?_ _));exact BK142.out) hb);have n5_:=am_ (below_step (by repeat (first | (with_reducible first | exact HB.out | apply below_alloc | apply pw_below_drewN | apply below_drew1 | refine below_set ?_ GE141.out | refine below_set ?_ GE142.out) | exact HB.out)) hb);have n6_:=am_ hbox;have n7_:=am_ ((by rw [hg];exact (below_size (by repeat (first | (with_reducible first | exact HB.out | apply below_alloc | apply pw_below_drewN | apply below_drew1 | refine below_set ?_ GE141.out | refine below_set ?_ GE142.out) | exact HB.out))) : w.heap.size ≤ gb153));have n8_:=am_ ((by rw [hg];exact (below_size (by repeat (first | (with_reducible first | exact HB.out | apply below_alloc | apply pw_below_drewN | apply below_drew1 | refine below_set ?_ GE141.out | refine below_set ?_ GE142.out) | exact HB.out))) : w.heap.size ≤ gb153));have n9_:=am_ ((by rw [hg];exact Nat.ne_of_lt (blk_lt (g:=gb141) (o := .cells #[.slice A0_0 l0_0.length c0_0, .slice A0_1 l0_1.length c0_1] 27 (0,0)) (by (with_reducible repeat (first | refine blk_drewN ?_ _ | refine blk_drew ?_ | refine blk_alloc ?_ _));exact BK141.out)) : gb141 ≠ gb153));have n10_:=am_ ((by rw [hg];exact Nat.ne_of_gt (blk_lt (g:=gb141) (o := .cells #[.slice A0_0 l0_0.length c0_0, .slice A0_1 l0_1.length c0_1] 27 (0,0)) (by (with_reducible repeat (first | refine blk_drewN ?_ _ | refine blk_drew ?_ | refine blk_alloc ?_ _));exact BK141.out)) : gb153 ≠ gb141));have n11_:=am_ ((by rw [hg];exact Nat.ne_of_lt (blk_lt (g:=gb142) (o := .cells #[.slice none 0 0, .slice none 0 0] 27 (0,0)) (by (with_reducible repeat (first | refine blk_drewN ?_ _ | refine blk_drew ?_ | refine blk_alloc ?_ _));exact BK142.out)) : gb142 ≠ gb153));have n12_:=am_ ((by rw [hg];exact Nat.ne_of_gt (blk_lt (g:=gb142) (o := .cells #[.slice none 0 0, .slice none 0 0] 27 (0,0)) (by (with_reducible repeat (first | refine blk_drewN ?_ _ | refine blk_drew ?_ | refine blk_alloc ?_ _));exact BK142.out)) : gb153 ≠ gb142));clear HO145;clear HO149;clear HO152;clear BK141;clear BK142;clear HB;have HO145:=n0_;have HO149:=n1_;have HO152:=n2_;have BK141:=n3_;have BK142:=n4_;have HB:=n5_;have BK153:=n6_;have GW153:=n7_;have GE153:=n8_;have NB141_153:=n9_;have NB153_141:=n10_;have NB142_153:=n11_;have NB153_142:=n12_;clear n0_ n1_ n2_ n3_ n4_ n5_ n6_ n7_ n8_ n9_ n10_ n11_ n12_;clear hb hbox hg;obtain ⟨Ao23,co23,eo23⟩ := Kd.R_slice HO149.out;subst eo23;have hnb24:=NB153_141.out;have hnc24:=NB141_153.out;have hnb25:=NB153_142.out;have hnc25:=NB142_153.out;have hcz26_0:=c2_0 BK153.out;have hcz26_1:=c2_1 BK153.out;have hfz26_0:=blk_frozen BK153.out 0;have hfz26_1:=blk_frozen BK153.out 1;obtain ⟨Ao27,co27,eo27⟩ := Kd.S_slice HO152.out;subst eo27) | ((with_reducible refine gate_store (t:=27) (p:=7) rfl ?_);refine store_event (t:=27) (p:=7) (v:=?vo_w28) (w1:=((w22.setCell ⟨gb153,0,none⟩ (.slice Ao23 t147.length co23)).setCell ⟨gb153,1,none⟩ (.slice Ao27 t150.length co27))) ?hg ?ho ?hn ?hr ?_;(case ho => rfl);(case hg => rfl);(case hn => rfl);(case hr => first | (go_simp;done) | (go_simp;rfl));intro w28 hw;have n0_ : Aside0 (Kd.R (Kd.int .i64) 3 w28 w.heap.size (fun k_ => some k_ ≠ (.slice Ao23 t147.length co23 : Value).ownBlock) (.slice Ao18 y143.length co18) y143):=⟨(by rw [hw];exact (by (with_reducible repeat (first | apply Kd.R_alloc | apply Kd.R_drewN | apply Kd.R_drew));exact Kd.R_mono (rf2_ (Kd.R_types HO145.out BK153.out (by decide)) (.slice Ao23 t147.length co23) (.slice Ao27 t150.length co27)) (fun _ hk => hk.1.2)))⟩;have n1_ : Aside0 (Kd.R (Kd.int .i64) 3 w28 w.heap.size (fun k_ => some k_ ≠ (.slice Ao18 y143.length co18 : Value).ownBlock) (.slice Ao23 t147.length co23) t147):=⟨(by rw [hw];exact (by (with_reducible repeat (first | apply Kd.R_alloc | apply Kd.R_drewN | apply Kd.R_drew));exact Kd.R_mono (rf2_ (Kd.R_types HO149.out BK153.out (by decide)) (.slice Ao23 t147.length co23) (.slice Ao27 t150.length co27)) (fun _ hk => hk.1.2)))⟩;have n2_ : Aside0 (Kd.S (Kd.slice 3 (Kd.int .i64)) 24 w28 w.heap.size (fun k_ => some k_ ≠ (.slice Ao18 y143.length co18 : Value).ownBlock ∧ some k_ ≠ (.slice Ao23 t147.length co23 : Value).ownBlock) (.slice Ao27 t150.length co27) t150):=⟨(by rw [hw];exact (by (with_reducible repeat (first | apply Kd.S_alloc | apply Kd.S_drewN | apply Kd.S_drew));exact Kd.S_mono (Kd.S_far (p:=⟨gb153,1,none⟩) (Kd.S_far (p:=⟨gb153,0,none⟩) (Kd.S_types HO152.out BK153.out (by decide)) (fun _ hk => hk.2) (.slice Ao23 t147.length co23)) (fun _ hk => hk.2) (.slice Ao27 t150.length co27)) (fun _ hk => ⟨hk.1.2,hk.1.1⟩)))⟩;have n3_ : Aside0 (w28.heap[gb141]? = some (.cells #[.slice A0_0 l0_0.length c0_0, .slice A0_1 l0_1.length c0_1] 27 (0,0))):=⟨(by rw [hw];exact (by (with_reducible repeat (first | refine blk_drewN ?_ _ | refine blk_drew ?_ | refine blk_alloc ?_ _));refine blk_far ?_ NB141_153.out _;(with_reducible repeat (first | refine blk_drewN ?_ _ | refine blk_drew ?_ | refine blk_alloc ?_ _));refine blk_far ?_ NB141_153.out _;(with_reducible repeat (first | refine blk_drewN ?_ _ | refine blk_drew ?_ | refine blk_alloc ?_ _));exact BK141.out))⟩;have n4_ : Aside0 (w28.heap[gb142]? = some (.cells #[.slice none 0 0, .slice none 0 0] 27 (0,0))):=⟨(by rw [hw];exact (by (with_reducible repeat (first | refine blk_drewN ?_ _ | refine blk_drew ?_ | refine blk_alloc ?_ _));refine blk_far ?_ NB142_153.out _;(with_reducible repeat (first | refine blk_drewN ?_ _ | refine blk_drew ?_ | refine blk_alloc ?_ _));refine blk_far ?_ NB142_153.out _;(with_reducible repeat (first | refine blk_drewN ?_ _ | refine blk_drew ?_ | refine blk_alloc ?_ _));exact BK142.out))⟩;have n5_ : Aside0 (w28.heap[gb153]? = some (.cells #[.slice Ao23 t147.length co23, .slice Ao27 t150.length co27] 27 (0,0))):=⟨(by rw [hw];exact (by (with_reducible repeat (first | refine blk_drewN ?_ _ | refine blk_drew ?_ | refine blk_alloc ?_ _));refine blk_put (cs:=#[.slice Ao23 t147.length co23, .slice none 0 0]) ?_ 1 _ rfl;(with_reducible repeat (first | refine blk_drewN ?_ _ | refine blk_drew ?_ | refine blk_alloc ?_ _));refine blk_put (cs:=#[.slice none 0 0, .slice none 0 0]) ?_ 0 _ rfl;(with_reducible repeat (first | refine blk_drewN ?_ _ | refine blk_drew ?_ | refine blk_alloc ?_ _));exact BK153.out))⟩;have n6_ : Aside0 (Below w.heap.size w w28):=⟨(by rw [hw];exact (by repeat (first | (with_reducible first | exact HB.out | apply below_alloc | apply pw_below_drewN | apply below_drew1 | refine below_set ?_ GE141.out | refine below_set ?_ GE142.out | refine below_set ?_ GE153.out) | exact HB.out)))⟩;clear hw;clear HO145;clear HO149;clear HO152;clear BK141;clear BK142;clear BK153;clear HB;have HO145:=n0_;have HO149:=n1_;have HO152:=n2_;have BK141:=n3_;have BK142:=n4_;have BK153:=n5_;have HB:=n6_;clear n0_ n1_ n2_ n3_ n4_ n5_ n6_;have hcz29_0:=c2_0 BK153.out;have hcz29_1:=c2_1 BK153.out;have hfz29_0:=blk_frozen BK153.out 0;have hfz29_1:=blk_frozen BK153.out 1;have pz_ : 0 ≤ (a1 : Int):=of_decide_eq_true (by first | (with_reducible assumption) | assumption);have qz_ : (a1 : Int) < ((t150.length : Int) : Int):=of_decide_eq_true (by first | (with_reducible assumption) | assumption);have qy_ : (a1 : Int) < ((t147.length : Int) : Int):=of_decide_eq_true (by first | (with_reducible assumption) | assumption);obtain ⟨go1_,cg1_,eg1_,gg1_,gl1_,cz1_,hz1_⟩ := Kd.R_form HO149.out (by omega);(first | cases eg1_ | (injection eg1_ with ea_ en_ ec_;(first | subst ea_ | (injection ea_ with ea_;subst ea_));subst ec_;clear en_));have GB1_:=am_ gg1_;clear gg1_ gl1_;obtain ⟨go2_,cg2_,eg2_,gg2_,gl2_,cz2_,hz2_⟩ := Kd.S_form HO152.out (by omega);(first | cases eg2_ | (injection eg2_ with ea_ en_ ec_;(first | subst ea_ | (injection ea_ with ea_;subst ea_));subst ec_;clear en_));have GB2_:=am_ gg2_;clear gg2_ gl2_ hz2_;have NE_:=am_ (show go1_ ≠ go2_ from fun e_ => Kd.S_ne HO152.out hz1_ (by decide) (by rw [e_];rfl));clear hz1_;have NSgb141:=am_ (Kd.S_ne HO152.out BK141.out (by decide));have NSgb142:=am_ (Kd.S_ne HO152.out BK142.out (by decide));have NSgb153:=am_ (Kd.S_ne HO152.out BK153.out (by decide));obtain ⟨okq_,ceq_,hclq_,hMq_,hccq_,hfrq_,hokq_,hHq_⟩ := Kd.S_elem HO152.out [] (a1 : Int) pz_ qz_;obtain ⟨veq_,rfl,geq_⟩ := hMq_;have hxq_:=hccq_ 0 _ rfl;(try simp only [show ((Kd.slice 3 (Kd.int .i64))).sz = 1 from rfl,Nat.mul_one,Nat.add_zero] at hxq_);clear hccq_ hfrq_ hclq_;have TQ_ : t150.getD (a1 : Int).toNat [] = t155:=clone_eq_ A8.out;rw [TQ_] at geq_;obtain ⟨Ao39,co39,eo39⟩ := Kd.R_slice geq_;subst eo39;clear TQ_;have UQ_:=am_ geq_;have HH_:=am_ (H_gone_ hHq_);have HI_:=am_ hokq_;clear geq_ hHq_ hokq_;have PZ_:=am_ pz_;have QZ_:=am_ qz_;have QY_:=am_ qy_;replace pz_:=eq_true pz_;replace qz_:=eq_true qz_;replace qy_:=eq_true qy_))
     have n0_:=am_ (Kd.R_drew HO149.out);have n1_:=am_ (Kd.R_drew UQ_.out);have n2_:=am_ (Kd.H_step (w1:=w28.drew) HH_.out (fun _ _ _ _ => rfl));have n3_:=am_ (below_drew1 HB.out);have n4_:=am_ (blk_drew BK141.out);have n5_:=am_ (blk_drew BK142.out);have n6_:=am_ (blk_drew BK153.out);clear HO149 UQ_ HH_ HB BK141 BK142 BK153;have HO149:=n0_;have UQ_:=n1_;have HH_:=n2_;have HB:=n3_;have BK141:=n4_;have BK142:=n5_;have BK153:=n6_;clear n0_ n1_ n2_ n3_ n4_ n5_ n6_
     refine start_ (n:=10) (S:=fun w' => w'.cell? ⟨gb153,0,none⟩ = some (.slice (some ⟨go1_,0,none⟩) t147.length co23) ∧ w'.cell? ⟨gb153,1,none⟩ = some (.slice (some ⟨go2_,0,none⟩) t150.length co27)) (ds := [9]) #[false,false,false,false,false,false,false,false,false,false] (by kernel_rfl) rfl rfl ⟨(blk_cell BK153.out 0).trans rfl,(blk_cell BK153.out 1).trans rfl⟩ (fun hHeld => ?_);refine with_tabW impl_CloseSlot.tab5 impl_CloseSlot.bits5 (fun HT_ HW_ => ?_)
     generalize w28.drew = wA_ at HO149 UQ_ HH_ HB BK141 BK142 BK153 hHeld ⊢;obtain ⟨hx7_,hf7_⟩ := Kd.R_celln 0 HO149.out (a1 : Int) PZ_.out QY_.out;refine pure_ (i:=0) (N:=some 27) (v:=?_) (a':=?_) #[true,false,false,false,false,false,false,false,false,false] rfl rfl (any_of HT_.out (by kernel_rfl)) (fun _ _ _ h => h) (Or.inl ⟨by rfl, ?_⟩) ?_ ?_
     rotate_left
     ·intro w'
      go_simp
      with_reducible rfl
     rotate_left
     ·simp only [Act.put,sA_,s0_,s1_,i64_w,i32_w]
      rfl
     refine pure_ (i:=2) (N:=some 29) (v:=?_) (a':=?_) #[true,false,true,false,false,false,false,false,false,false] rfl rfl (any_of HT_.out (by kernel_rfl)) (fun _ _ _ h => h) (Or.inl ⟨by rfl, ?_⟩) ?_ ?_
     rotate_left
     ·intro w'
      go_simp
      with_reducible rfl
     rotate_left
     ·simp only [Act.put,sA_,s0_,s1_,i64_w,i32_w]
      rfl
     refine pure_ (i:=3) (N:=some 30) (v:=?_) (a':=?_) #[true,false,true,true,false,false,false,false,false,false] rfl rfl (any_of HT_.out (by kernel_rfl)) (fun _ _ _ h => h) (Or.inl ⟨by rfl, ?_⟩) ?_ ?_
     rotate_left
     ·intro w'
      go_simp
      with_reducible rfl
     rotate_left
     ·simp only [Act.put,sA_,s0_,s1_,i64_w,i32_w]
      rfl
     refine pure_ (i:=5) (N:=some 32) (v:=?_) (a':=?_) #[true,false,true,true,false,true,false,false,false,false] rfl rfl (any_of HT_.out (by kernel_rfl)) (fun _ _ _ h => h) (Or.inl ⟨by rfl, ?_⟩) ?_ ?_
     rotate_left
     ·intro w'
      go_simp
      with_reducible rfl
     rotate_left
     ·simp only [Act.put,sA_,s0_,s1_,i64_w,i32_w]
      rfl
     refine take_ (i:=1) (N:=some 28) (v:=?_) (a':=?_) #[true,true,true,true,false,true,false,false,false,false] rfl rfl (take_ofW HT_.out HW_.out (by kernel_rfl)) (fun _ _ _ h => h) (Or.inl ⟨by rfl, ?_⟩) hHeld ?_ ?_
     rotate_left
     ·rintro w' ⟨s0,s1⟩
      go_simp
      with_reducible rfl
     rotate_left
     ·simp only [Act.put,sA_,s0_,s1_,i64_w,i32_w]
      rfl
     refine take_ (i:=4) (N:=some 31) (v:=?_) (a':=?_) #[true,true,true,true,true,true,false,false,false,false] rfl rfl (take_ofW HT_.out HW_.out (by kernel_rfl)) (fun _ _ _ h => h) (Or.inl ⟨by rfl, ?_⟩) hHeld ?_ ?_
     rotate_left
     ·rintro w' ⟨s0,s1⟩
      go_simp
      with_reducible rfl
     rotate_left
     ·simp only [Act.put,sA_,s0_,s1_,i64_w,i32_w]
      rfl
     refine pure_ (i:=6) (N:=some 33) (v:=?_) (a':=?_) #[true,true,true,true,true,true,true,false,false,false] rfl rfl (any_of HT_.out (by kernel_rfl)) (fun _ _ _ h => h) (Or.inl ⟨by rfl, ?_⟩) ?_ ?_
     rotate_left
     ·intro w'
      go_simp
      with_reducible rfl
     rotate_left
     ·simp only [Act.put,sA_,s0_,s1_,i64_w,i32_w]
      rfl
     refine one_ (i:=7) (N:=none) #[true,true,true,true,true,true,true,true,false,false] rfl rfl (one_of HT_.out (by kernel_rfl)) (by decide) (fun K hK => ?_);refine skip_ (w1:=?_) (by rfl) rfl ?_ ?_
     rotate_left
     ·go_simp
      rfl
     have HP_:=Kd.R_putg HO149.out (a1 : Int) 0;have n0_:=am_ (show Kd.R (Kd.int .i64) 3 (wA_.setCell ⟨go1_,(a1 : Int).toNat,none⟩ (.int .i64 0)) w.heap.size _ (.slice (some ⟨go1_,0,none⟩) t147.length co23 : Value) y158 from by rw [Ny158.out];exact HP_.1);have n1_:=am_ (Kd.R_step UQ_.out (fun k_ ho_ hlt_ => HP_.2.block k_ hlt_ (fun he_ => (HI_.out k_ ho_).1.2 he_)));have n2_:=am_ (Kd.H_other HH_.out HP_.2 (fun k_ ho_ => ho_.1.2));have n3_:=am_ (show Below w.heap.size w (wA_.setCell ⟨go1_,(a1 : Int).toNat,none⟩ (.int .i64 0)) from below_set HB.out GB1_.out);have n4_:=am_ (blk_grown (g:=gb141) (o := .cells #[.slice A0_0 l0_0.length c0_0, .slice A0_1 l0_1.length c0_1] 27 (0,0)) BK141.out HP_.2 (Kd.R_ne HO149.out BK141.out (by decide)));have n5_:=am_ (blk_grown (g:=gb142) (o := .cells #[.slice none 0 0, .slice none 0 0] 27 (0,0)) BK142.out HP_.2 (Kd.R_ne HO149.out BK142.out (by decide)));have n6_:=am_ (blk_grown (g:=gb153) (o := .cells #[.slice (some ⟨go1_,0,none⟩) t147.length co23, .slice (some ⟨go2_,0,none⟩) t150.length co27] 27 (0,0)) BK153.out HP_.2 (Kd.R_ne HO149.out BK153.out (by decide)));clear HP_ hx7_ hf7_ HO149 UQ_ HH_ HB BK141 BK142 BK153;have HO149:=n0_;have UQ_:=n1_;have HH_:=n2_;have HB:=n3_;have BK141:=n4_;have BK142:=n5_;have BK153:=n6_;clear n0_ n1_ n2_ n3_ n4_ n5_ n6_;refine hK.out _ _ ⟨(blk_cell BK153.out 0).trans rfl,(blk_cell BK153.out 1).trans rfl⟩ (fun hHeld => ?_);clear hK K;generalize (wA_.setCell ⟨go1_,(a1 : Int).toNat,none⟩ (.int .i64 0)) = wB_ at HO149 UQ_ HH_ HB BK141 BK142 BK153 hHeld ⊢;refine pure_ (i:=8) (N:=some 34) (v:=?_) (a':=?_) #[true,true,true,true,true,true,true,true,true,false] rfl rfl (any_of HT_.out (by kernel_rfl)) (fun _ _ _ h => h) (Or.inl ⟨by rfl, ?_⟩) ?_ ?_
     rotate_left
     ·intro w'
      go_simp
      with_reducible rfl
     rotate_left
     ·simp only [Act.put,sA_,s0_,s1_,i64_w,i32_w]
      rfl
     obtain ⟨hcc_,hfr_⟩ := Kd.H_at HH_.out PZ_.out QZ_.out;have hx9_:=hcc_ 0 _ rfl;have hf9_:=hfr_ 0;(try simp only [Nat.add_zero] at hx9_);(try rw [show ((Kd.slice 3 (Kd.int .i64))).sz = 1 from rfl,Nat.mul_one] at hx9_);(try simp only [Nat.add_zero] at hf9_);(try rw [show ((Kd.slice 3 (Kd.int .i64))).sz = 1 from rfl,Nat.mul_one] at hf9_);refine last_ (i:=9) (N:=none) #[true,true,true,true,true,true,true,true,true,true] rfl rfl (one_of HT_.out (by kernel_rfl)) (by decide) (fun K hK => ?_);refine skip_ (w1:=?_) (by rfl) rfl ?_ ?_
     rotate_left
     ·go_simp
      rfl
     refine hK.out _ _ ?_;clear hK K;refine done_ (done_of HT_.out (by kernel_rfl)) ?_;have HP_:=Kd.S_seg0 HH_.out PZ_.out QZ_.out (seg := [.slice none 0 0]) (j:=0) (show 1 ≤ 1 from by decide) (x':=([] : List Int)) (okp:=fun _ => False) (Kd.M_row (Kd.R_nil _ _ _ _ _)) (fun _ hk => hk);(try simp only [show ((Kd.slice 3 (Kd.int .i64))).sz = 1 from rfl,Nat.mul_one,Nat.add_zero] at HP_);have n0_:=am_ (show Kd.S (Kd.slice 3 (Kd.int .i64)) 24 (wB_.setCell ⟨go2_,(a1 : Int).toNat,none⟩ (.slice none 0 0)) w.heap.size (fun k_ => some k_ ≠ (.slice (some ⟨go1_,0,none⟩) t147.length co23 : Value).ownBlock ∧ some k_ ≠ (.slice Ao39 t155.length co39 : Value).ownBlock) (.slice (some ⟨go2_,0,none⟩) t150.length co27 : Value) y159 from by rw [Ny159.out];exact Kd.S_mono HP_.1 (fun k_ hk_ => ⟨hk_.1.2,fun e_ => hk_.2 (UQ_.out.1 k_ e_.symm)⟩));have n1_:=am_ (show Kd.R (Kd.int .i64) 3 (wB_.setCell ⟨go2_,(a1 : Int).toNat,none⟩ (.slice none 0 0)) w.heap.size (fun k_ => some k_ ≠ (.slice (some ⟨go1_,0,none⟩) t147.length co23 : Value).ownBlock) (.slice Ao39 t155.length co39 : Value) t155 from Kd.R_mono (Kd.R_step UQ_.out (fun k_ ho_ hlt_ => HP_.2.block k_ hlt_ (fun he_ => (HI_.out k_ ho_).2 (Option.some.inj he_)))) (fun k_ ho_ => (HI_.out k_ ho_).1.2));have n2_:=am_ (show Kd.R (Kd.int .i64) 3 (wB_.setCell ⟨go2_,(a1 : Int).toNat,none⟩ (.slice none 0 0)) w.heap.size (fun k_ => some k_ ≠ (.slice Ao39 t155.length co39 : Value).ownBlock) (.slice (some ⟨go1_,0,none⟩) t147.length co23 : Value) y158 from Kd.R_mono (Kd.R_step (Kd.R_reok (ok:=fun k_ => some k_ ≠ (.slice Ao39 t155.length co39 : Value).ownBlock ∧ k_ ≠ go2_) rfl HO149.out (fun k_ e_ => ⟨fun e2_ => (HI_.out k_ (UQ_.out.1 k_ e2_.symm)).1.2 e_.symm,fun e2_ => NE_.out ((Option.some.inj (show some go1_ = some k_ from e_)).trans e2_)⟩)) (fun k_ ho_ hlt_ => HP_.2.block k_ hlt_ (fun he_ => ho_.2 (Option.some.inj he_)))) (fun _ ho_ => ho_.1));have n3_:=am_ (show Below w.heap.size w (wB_.setCell ⟨go2_,(a1 : Int).toNat,none⟩ (.slice none 0 0)) from below_set HB.out GB2_.out);have n4_:=am_ (show (wB_.setCell ⟨go2_,(a1 : Int).toNat,none⟩ (.slice none 0 0)).heap[gb141]? = some (.cells #[.slice A0_0 l0_0.length c0_0, .slice A0_1 l0_1.length c0_1] 27 (0,0)) from blk_grown (g:=gb141) (o := .cells #[.slice A0_0 l0_0.length c0_0, .slice A0_1 l0_1.length c0_1] 27 (0,0)) BK141.out HP_.2 NSgb141.out);have n5_:=am_ (show (wB_.setCell ⟨go2_,(a1 : Int).toNat,none⟩ (.slice none 0 0)).heap[gb142]? = some (.cells #[.slice none 0 0, .slice none 0 0] 27 (0,0)) from blk_grown (g:=gb142) (o := .cells #[.slice none 0 0, .slice none 0 0] 27 (0,0)) BK142.out HP_.2 NSgb142.out);have n6_:=am_ (show (wB_.setCell ⟨go2_,(a1 : Int).toNat,none⟩ (.slice none 0 0)).heap[gb153]? = some (.cells #[.slice (some ⟨go1_,0,none⟩) t147.length co23, .slice (some ⟨go2_,0,none⟩) t150.length co27] 27 (0,0)) from blk_grown (g:=gb153) (o := .cells #[.slice (some ⟨go1_,0,none⟩) t147.length co23, .slice (some ⟨go2_,0,none⟩) t150.length co27] 27 (0,0)) BK153.out HP_.2 NSgb153.out);clear HP_ hcc_ hfr_ hx9_ hf9_ UQ_ HH_ HI_ PZ_ QZ_ QY_ hHeld HT_ HW_ NE_ NSgb141 NSgb142 NSgb153 HO149 HB BK141 BK142 BK153;clear HO152;generalize (wB_.setCell ⟨go2_,(a1 : Int).toNat,none⟩ (.slice none 0 0)) = wC_ at n0_ n1_ n2_ n3_ n4_ n5_ n6_ ⊢;have HO152:=n0_;have HO157:=n1_;have HO149:=n2_;have HB:=n3_;have BK141:=n4_;have BK142:=n5_;have BK153:=n6_;clear n0_ n1_ n2_ n3_ n4_ n5_ n6_
     go_wp2_with (first | ((with_reducible refine gate_dst (N:=35) rfl ?_);refine Kd.R_lit (Kd.int .i64) _ 3 ?hg (N:=35) ?hd (xs:=([] : List Int)) (inner := []) (ok:=fun _ => True) (okp:=fun _ => True) ?hr ?hp (fun _ hk => hk) trivial (Below.refl _ _) (Nat.le_refl _) (by simp) ?_;(case hd => rfl);(case hg => rfl);(case hr => first | (go_simp;done) | (go_simp;rfl));(case hp => exact (Reps.none _ _));intro v161 w37 ho38 hb hg_ hnew_;clear hg_ hnew_;(first | rw [← Ny160.out] at ho38 | (simp only [Int.reduceToNat] at ho38;rw [← Ny160.out] at ho38));have n0_:=am_ (Kd.R_elder' (by (with_reducible repeat (first | apply Kd.R_alloc | apply Kd.R_drewN | apply Kd.R_drew));exact HO149.out) (Kd.R_base ho38) hb);have n1_:=am_ (Kd.S_elder' (by (with_reducible repeat (first | apply Kd.S_alloc | apply Kd.S_drewN | apply Kd.S_drew));exact HO152.out) (Kd.R_base ho38) hb);have n2_:=am_ (Kd.R_elder' (by (with_reducible repeat (first | apply Kd.R_alloc | apply Kd.R_drewN | apply Kd.R_drew));exact HO157.out) (Kd.R_base ho38) hb);have n3_:=am_ (Kd.R_lower (Kd.R_new' (Kd.R_new' ho38 (Kd.R_lt (by (with_reducible repeat (first | apply Kd.R_alloc | apply Kd.R_drewN | apply Kd.R_drew));exact HO149.out))) (Kd.R_lt (by (with_reducible repeat (first | apply Kd.R_alloc | apply Kd.R_drewN | apply Kd.R_drew));exact HO157.out))) (below_size (by repeat (first | (with_reducible first | exact HB.out | apply below_alloc | apply pw_below_drewN | apply below_drew1) | exact HB.out))));have n4_:=am_ (blk_below (g:=gb141) (o := .cells #[.slice A0_0 l0_0.length c0_0, .slice A0_1 l0_1.length c0_1] 27 (0,0)) (by (with_reducible repeat (first | refine blk_drewN ?_ _ | refine blk_drew ?_ | refine blk_alloc ?_ _));exact BK141.out) hb);have n5_:=am_ (blk_below (g:=gb142) (o := .cells #[.slice none 0 0, .slice none 0 0] 27 (0,0)) (by (with_reducible repeat (first | refine blk_drewN ?_ _ | refine blk_drew ?_ | refine blk_alloc ?_ _));exact BK142.out) hb);have n6_:=am_ (blk_below (g:=gb153) (o := .cells #[.slice (some ⟨go1_,0,none⟩) t147.length co23, .slice (some ⟨go2_,0,none⟩) t150.length co27] 27 (0,0)) (by (with_reducible repeat (first | refine blk_drewN ?_ _ | refine blk_drew ?_ | refine blk_alloc ?_ _));exact BK153.out) hb);have n7_:=am_ (below_step (by repeat (first | (with_reducible first | exact HB.out | apply below_alloc | apply pw_below_drewN | apply below_drew1) | exact HB.out)) hb);clear HO149 HO152 HO157 BK141 BK142 BK153 HB;have HO149:=n0_;have HO152:=n1_;have HO157:=n2_;have HO162:=n3_;have BK141:=n4_;have BK142:=n5_;have BK153:=n6_;have HB:=n7_;clear n0_ n1_ n2_ n3_ n4_ n5_ n6_ n7_;clear hb ho38))
     (try simp only [Act.put,sA_,s0_,s1_])
     go_loopg [9,38] k (fun kq v9 v38 w' => ∃ (x9_1 : List Int) (x38_1 : Int) (x154001_1 : List (List Int)) (u154001 : Value),v38 = .int .i64 x38_1 ∧ Aside0 (impl_CloseSlot.l0 kq a1 x9_1 t155 (t155.length : Int) x38_1 y158 x154001_1 = some (r1,r2,r3,r4)) ∧ Aside0 (kq ≤ k) ∧ Aside0 (Kd.R (Kd.int .i64) 3 w' w.heap.size (fun k_ => some k_ ≠ ((.slice Ao39 t155.length co39) : Value).ownBlock ∧ some k_ ≠ ((.slice (some ⟨go1_,0,none⟩) t147.length co23) : Value).ownBlock) v9 x9_1) ∧ Aside0 (Kd.R (Kd.int .i64) 3 w' w.heap.size (fun k_ => some k_ ≠ (v9 : Value).ownBlock ∧ some k_ ≠ ((.slice (some ⟨go1_,0,none⟩) t147.length co23) : Value).ownBlock) (.slice Ao39 t155.length co39) t155) ∧ Aside0 (Kd.R (Kd.int .i64) 3 w' w.heap.size (fun k_ => some k_ ≠ (v9 : Value).ownBlock ∧ some k_ ≠ ((.slice Ao39 t155.length co39) : Value).ownBlock) (.slice (some ⟨go1_,0,none⟩) t147.length co23) y158) ∧ Aside0 (Kd.S (Kd.slice 3 (Kd.int .i64)) 24 w' w.heap.size (fun k_ => some k_ ≠ (v9 : Value).ownBlock ∧ some k_ ≠ ((.slice Ao39 t155.length co39) : Value).ownBlock ∧ some k_ ≠ ((.slice (some ⟨go1_,0,none⟩) t147.length co23) : Value).ownBlock) u154001 x154001_1) ∧ Aside0 (w'.heap[gb141]? = some (.cells #[(.slice A0_0 l0_0.length c0_0),(.slice A0_1 l0_1.length c0_1)] 27 (0,0))) ∧ Aside0 (w'.heap[gb142]? = some (.cells #[(.slice none 0 0),(.slice none 0 0)] 27 (0,0))) ∧ Aside0 (w'.heap[gb153]? = some (.cells #[(.slice (some ⟨go1_,0,none⟩) t147.length co23),u154001] 27 (0,0))) ∧ Aside0 (Below w.heap.size w w'))
     case atStart => exact ⟨(y160),(0),(y159),(.slice (some ⟨go2_,0,none⟩) t150.length co27),(by first | rfl | (simp;done) | (simp [*];done)),H',⟨Nat.le_refl _⟩,⟨by (with_reducible repeat (first | apply Kd.R_alloc | apply Kd.R_drewN | apply Kd.R_drew));exact Kd.R_mono HO162.out (fun _ hk => ⟨hk.2,hk.1.2⟩)⟩,⟨by (with_reducible repeat (first | apply Kd.R_alloc | apply Kd.R_drewN | apply Kd.R_drew));exact Kd.R_mono HO157.out (fun _ hk => ⟨hk.2,hk.1⟩)⟩,⟨by (with_reducible repeat (first | apply Kd.R_alloc | apply Kd.R_drewN | apply Kd.R_drew));exact Kd.R_mono HO149.out (fun _ hk => ⟨hk.2,hk.1⟩)⟩,⟨by (with_reducible repeat (first | apply Kd.S_alloc | apply Kd.S_drewN | apply Kd.S_drew));exact Kd.S_mono HO152.out (fun _ hk => ⟨hk.2,⟨hk.1.2,hk.1.1⟩⟩)⟩,⟨by (with_reducible repeat (first | refine blk_drewN ?_ _ | refine blk_drew ?_ | refine blk_alloc ?_ _));exact BK141.out⟩,⟨by (with_reducible repeat (first | refine blk_drewN ?_ _ | refine blk_drew ?_ | refine blk_alloc ?_ _));exact BK142.out⟩,⟨by (with_reducible repeat (first | refine blk_drewN ?_ _ | refine blk_drew ?_ | refine blk_alloc ?_ _));exact BK153.out⟩,⟨by repeat (first | (with_reducible first | exact HB.out | apply below_alloc | apply pw_below_drewN | apply below_drew1 | refine below_set ?_ GE141.out | refine below_set ?_ GE142.out | refine below_set ?_ GE153.out) | exact HB.out)⟩⟩
     case round =>
      clear H';(try clear c1);(try clear p1);(try clear q1);(try clear hx1);(try clear c2);(try clear p2);(try clear c3);(try clear hx3);(try clear hf3);(try clear c4);(try clear c6);(try clear c6b0);(try clear c7);(try clear c7b0);(try clear c9);(try clear c9b0);(try clear p10);(try clear q10);(try clear hx10);(try clear hf10);(try clear c11);(try clear p11);(try clear q11);(try clear hx11);(try clear hf11);(try clear c14);(try clear c15);(try clear p15);(try clear q15);(try clear hx15);(try clear c23);(try clear c24);(try clear c25);(try clear c35);(try clear hx35);(try clear hf35);(try clear hcz15_0);(try clear hcz15_1);(try clear hcz20_0);(try clear hcz20_1);(try clear hcz26_0);(try clear hcz26_1);(try clear hcz29_0);(try clear hcz29_1);(try clear hcz31_0);(try clear hcz31_1);(try clear hcz34_0);(try clear hcz34_1);(try clear hfz15_0);(try clear hfz15_1);(try clear hfz20_0);(try clear hfz20_1);(try clear hfz26_0);(try clear hfz26_1);(try clear hfz29_0);(try clear hfz29_1);(try clear hfz31_0);(try clear hfz31_1);(try clear hfz34_0);(try clear hfz34_1);(try clear hx10_0);(try clear hx11_0);(try clear hx154_0);(try clear hx35_0);(try clear p10);(try clear p11);(try clear p154);(try clear q10);(try clear q11);(try clear q154);obtain ⟨x9_1,x38_1,x154001_1,u154001,rfl,HA,HK1,HO_9,HO_36,HO_154000,HO_154001,BK141,BK142,BK153,HB⟩ := hrel;have hl154000_1:=(Kd.R_reads' HO_154000.out).1;rw [hl154000_1] at HO_154000;(try simp only [hl154000_1]);(try simp only [hl154000_1] at BK141);(try simp only [hl154000_1] at BK142);(try simp only [hl154000_1] at BK153);(try simp only [hl154000_1] at HO_9);(try simp only [hl154000_1] at HO_36);(try simp only [hl154000_1] at HO_154001)
      cases gk with
      | zero => exact absurd HA.out (by simp [impl_CloseSlot.l0])
      | succ k1 =>
       have H:=HA.out;clear HA;simp only [impl_CloseSlot.l0] at H
       by_cases c40 : x38_1 < (t155.length : Int)
       ·rw [if_pos c40] at H;have c40b0 : decide (x38_1 < (t155.length : Int)) = true:=decide_eq_true c40;clear c40
        by_cases c41 : 0 ≤ x38_1
        ·rw [if_pos c41] at H;have c41b0 : decide (0 ≤ x38_1) = true:=decide_eq_true c41;clear c41
         by_cases c42 : x38_1 < (t155.length : Int)
         ·rw [if_pos c42] at H;have c42b0 : decide (x38_1 < (t155.length : Int)) = true:=decide_eq_true c42;clear c42;have H':=am_ H;clear H;have p163 : 0 ≤ (x38_1 : Int):=of_decide_eq_true (by first | (with_reducible assumption) | assumption);have q163 : x38_1 < (t155.length : Int):=of_decide_eq_true (by first | (with_reducible assumption) | assumption);obtain ⟨ad163,e163,hx163_0⟩ := Kd.at_int (Kd.R_reads' HO_36.out).2.2 x38_1 p163 q163;cases e163;replace p163:=eq_true p163;replace q163:=eq_true q163;have hnb43:=NB153_141.out;have hnc43:=NB141_153.out;have hnb44:=NB153_142.out;have hnc44:=NB142_153.out;have hcz45_0:=c2_0 BK153.out;have hcz45_1:=c2_1 BK153.out;have hfz45_0:=blk_frozen BK153.out 0;have hfz45_1:=blk_frozen BK153.out 1;obtain ⟨Ao46,co46,eo46⟩ := Kd.S_slice HO_154001.out;subst eo46
          go_wp2
          (try simp only [Act.put,sA_,s0_,s1_])
          go_loopg [12,45] k1 (fun kq v12 v45 w' => ∃ (x12_2 : Int) (x45_2 : Int),v12 = .int .i64 x12_2 ∧ v45 = .int .i64 x45_2 ∧ Aside0 (impl_CloseSlot.l1 kq a1 x9_1 (rd t155 x38_1) x12_2 t155 (t155.length : Int) x38_1 (x154001_1.length : Int) x45_2 y158 x154001_1 = some (r1,r2,r3,r4)) ∧ Aside0 (kq ≤ k1) ∧ Aside0 (Kd.R (Kd.int .i64) 3 w' w.heap.size (fun k_ => some k_ ≠ ((.slice (some ad163) t155.length co39) : Value).ownBlock ∧ some k_ ≠ ((.slice (some ⟨go1_,0,none⟩) y158.length co23) : Value).ownBlock) u9 x9_1) ∧ Aside0 (Kd.R (Kd.int .i64) 3 w' w.heap.size (fun k_ => some k_ ≠ (u9 : Value).ownBlock ∧ some k_ ≠ ((.slice (some ⟨go1_,0,none⟩) y158.length co23) : Value).ownBlock) (.slice (some ad163) t155.length co39) t155) ∧ Aside0 (Kd.R (Kd.int .i64) 3 w' w.heap.size (fun k_ => some k_ ≠ (u9 : Value).ownBlock ∧ some k_ ≠ ((.slice (some ad163) t155.length co39) : Value).ownBlock) (.slice (some ⟨go1_,0,none⟩) y158.length co23) y158) ∧ Aside0 (Kd.S (Kd.slice 3 (Kd.int .i64)) 24 w' w.heap.size (fun k_ => some k_ ≠ (u9 : Value).ownBlock ∧ some k_ ≠ ((.slice (some ad163) t155.length co39) : Value).ownBlock ∧ some k_ ≠ ((.slice (some ⟨go1_,0,none⟩) y158.length co23) : Value).ownBlock) (.slice Ao46 x154001_1.length co46) x154001_1) ∧ Aside0 (w'.heap[gb141]? = some (.cells #[(.slice A0_0 l0_0.length c0_0),(.slice A0_1 l0_1.length c0_1)] 27 (0,0))) ∧ Aside0 (w'.heap[gb142]? = some (.cells #[(.slice none 0 0),(.slice none 0 0)] 27 (0,0))) ∧ Aside0 (w'.heap[gb153]? = some (.cells #[(.slice (some ⟨go1_,0,none⟩) y158.length co23),(.slice Ao46 x154001_1.length co46)] 27 (0,0))) ∧ Aside0 (Below w.heap.size w w'))
          case atStart => exact ⟨((-1)),(0),(by first | rfl | (simp;done) | (simp [*];done)),(by first | rfl | (simp;done) | (simp [*];done)),H',⟨Nat.le_refl _⟩,⟨by (try simp only [hl154000_1]);(with_reducible repeat (first | apply Kd.R_alloc | apply Kd.R_drewN | apply Kd.R_drew));exact HO_9.out⟩,⟨by (try simp only [hl154000_1]);(with_reducible repeat (first | apply Kd.R_alloc | apply Kd.R_drewN | apply Kd.R_drew));exact HO_36.out⟩,⟨by (try simp only [hl154000_1]);(with_reducible repeat (first | apply Kd.R_alloc | apply Kd.R_drewN | apply Kd.R_drew));exact HO_154000.out⟩,⟨by (try simp only [hl154000_1]);(with_reducible repeat (first | apply Kd.S_alloc | apply Kd.S_drewN | apply Kd.S_drew));exact HO_154001.out⟩,⟨by (try simp only [hl154000_1]);(with_reducible repeat (first | refine blk_drewN ?_ _ | refine blk_drew ?_ | refine blk_alloc ?_ _));exact BK141.out⟩,⟨by (try simp only [hl154000_1]);(with_reducible repeat (first | refine blk_drewN ?_ _ | refine blk_drew ?_ | refine blk_alloc ?_ _));exact BK142.out⟩,⟨by (try simp only [hl154000_1]);(with_reducible repeat (first | refine blk_drewN ?_ _ | refine blk_drew ?_ | refine blk_alloc ?_ _));exact BK153.out⟩,⟨by repeat (first | (with_reducible first | exact HB.out | apply below_alloc | apply pw_below_drewN | apply below_drew1 | refine below_set ?_ GE141.out | refine below_set ?_ GE142.out | refine below_set ?_ GE153.out) | exact HB.out)⟩⟩
          case round =>
           clear H';(try clear c1);(try clear p1);(try clear q1);(try clear hx1);(try clear c2);(try clear p2);(try clear c3);(try clear hx3);(try clear hf3);(try clear c4);(try clear c6);(try clear c6b0);(try clear c7);(try clear c7b0);(try clear c9);(try clear c9b0);(try clear p10);(try clear q10);(try clear hx10);(try clear hf10);(try clear c11);(try clear p11);(try clear q11);(try clear hx11);(try clear hf11);(try clear c14);(try clear c15);(try clear p15);(try clear q15);(try clear hx15);(try clear p16);(try clear q16);(try clear hx16);(try clear c23);(try clear c24);(try clear c25);(try clear c35);(try clear hx35);(try clear hf35);(try clear c40);(try clear c40b0);(try clear c41);(try clear c41b0);(try clear c42);(try clear c42b0);(try clear c43);(try clear c44);(try clear hcz15_0);(try clear hcz15_1);(try clear hcz20_0);(try clear hcz20_1);(try clear hcz26_0);(try clear hcz26_1);(try clear hcz29_0);(try clear hcz29_1);(try clear hcz31_0);(try clear hcz31_1);(try clear hcz34_0);(try clear hcz34_1);(try clear hcz45_0);(try clear hcz45_1);(try clear hfz15_0);(try clear hfz15_1);(try clear hfz20_0);(try clear hfz20_1);(try clear hfz26_0);(try clear hfz26_1);(try clear hfz29_0);(try clear hfz29_1);(try clear hfz31_0);(try clear hfz31_1);(try clear hfz34_0);(try clear hfz34_1);(try clear hfz45_0);(try clear hfz45_1);(try clear hx10_0);(try clear hx11_0);(try clear hx154_0);(try clear hx163_0);(try clear hx35_0);(try clear p1);(try clear p10);(try clear p11);(try clear p15);(try clear p154);(try clear p163);(try clear p2);(try clear q1);(try clear q10);(try clear q11);(try clear q15);(try clear q154);(try clear q163);obtain ⟨x12_2,x45_2,rfl,rfl,HA,HK2,HO_9,HO_36,HO_154000,HO_154001,BK141,BK142,BK153,HB⟩ := hrel
           cases gk with
           | zero => exact absurd HA.out (by simp [impl_CloseSlot.l1])
           | succ k2 =>
            have H:=HA.out;clear HA;simp only [impl_CloseSlot.l1] at H
            by_cases c47 : x45_2 < (x154001_1.length : Int)
            ·rw [if_pos c47] at H;have c47b0 : decide (x45_2 < (x154001_1.length : Int)) = true:=decide_eq_true c47;clear c47
             by_cases c48 : 0 ≤ x45_2
             ·rw [if_pos c48] at H;have c48b0 : decide (0 ≤ x45_2) = true:=decide_eq_true c48;clear c48
              by_cases c49 : x45_2 < (x154001_1.length : Int)
              ·rw [if_pos c49] at H;have c49b0 : decide (x45_2 < (x154001_1.length : Int)) = true:=decide_eq_true c49;clear c49
               by_cases c50 : x45_2 < (y158.length : Int)
               ·rw [if_pos c50] at H;have c50b0 : decide (x45_2 < (y158.length : Int)) = true:=decide_eq_true c50;clear c50
                by_cases c51 : ((rd_L1 x154001_1 x45_2).length : Int) < (rd y158 x45_2)
                ·rw [if_pos c51] at H;have c51b0 : decide (((rd_L1 x154001_1 x45_2).length : Int) < (rd y158 x45_2)) = true:=decide_eq_true c51;clear c51
                 by_cases c52 : x12_2 < 0
                 ·rw [if_pos c52] at H;have c52b0 : decide (x12_2 < 0) = true:=decide_eq_true c52;clear c52;have H':=am_ H;clear H
                  try go_wp2
                  have n0_:=am_ (Kd.R_drew HO_9.out);have n1_:=am_ (Kd.R_drew HO_36.out);have n2_:=am_ (Kd.R_drew HO_154000.out);have n3_:=am_ (Kd.S_drew HO_154001.out);have n4_:=am_ (blk_drew BK141.out);have n5_:=am_ (blk_drew BK142.out);have n6_:=am_ (blk_drew BK153.out);have n7_:=am_ (below_drew1 HB.out);clear HO_9;clear HO_36;clear HO_154000;clear HO_154001;clear BK141;clear BK142;clear BK153;clear HB;have HO_9:=n0_;have HO_36:=n1_;have HO_154000:=n2_;have HO_154001:=n3_;have BK141:=n4_;have BK142:=n5_;have BK153:=n6_;have HB:=n7_;clear n0_ n1_ n2_ n3_ n4_ n5_ n6_ n7_;have p168 : 0 ≤ (x45_2 : Int):=of_decide_eq_true (by first | (with_reducible assumption) | assumption);have q168 : x45_2 < (x154001_1.length : Int):=of_decide_eq_true (by first | (with_reducible assumption) | assumption);obtain ⟨ad168,A168_0,c168_0,e168,hx168_0,hl168_0,hi168_0⟩ := at_L1 (Kd.S_reads' HO_154001.out).2.2 x45_2 p168 q168;cases e168;obtain ⟨ce168,hce168,hMe168,hcc168⟩ := Kd.S_get HO_154001.out [] x45_2 p168 (by first | exact q168 | exact of_decide_eq_true (by first | (with_reducible assumption) | assumption) | (have e_:=(Kd.S_reads' HO_154001.out).1;omega));obtain ⟨ve168_0,rfl,ge168_0⟩ := hMe168;have hv168_0:=hcc168 0 _ rfl;rw [Nat.add_zero,show ((Kd.slice 3 (Kd.int .i64))).sz = 1 from rfl,Nat.mul_one] at hv168_0;replace hv168_0:=Option.some.inj (hv168_0.symm.trans hx168_0);rw [hv168_0] at ge168_0;have HL168_0:=am_ (show Kd.R (Kd.int .i64) 3 _ _ _ _ (rd_L1 x154001_1 x45_2) from ge168_0);clear hv168_0 ge168_0;clear hcc168 hce168;have HR168_0:=am_ hi168_0;have HC168_0:=am_ hl168_0;clear hi168_0 hl168_0;replace p168:=eq_true p168;replace q168:=eq_true q168;have p169 : 0 ≤ (x45_2 : Int):=of_decide_eq_true (by first | (with_reducible assumption) | assumption);have q169 : x45_2 < (y158.length : Int):=of_decide_eq_true (by first | (with_reducible assumption) | assumption);obtain ⟨ad169,e169,hx169_0⟩ := Kd.at_int (Kd.R_reads' HO_154000.out).2.2 x45_2 p169 q169;obtain rfl : (⟨go1_,0,none⟩ : Addr) = ad169:=(by injection e169)
                  (first | simp only [add_plain] at hx169_0 | simp only [add_at] at hx169_0 | simp only [Addr.add,Nat.zero_add] at hx169_0 | skip)
                  replace p169:=eq_true p169;replace q169:=eq_true q169
                  refine start_ (n:=27) (S:=fun w' => w'.cell? ⟨gb153,0,none⟩ = some (.slice (some ⟨go1_,0,none⟩) y158.length co23) ∧ w'.cell? ⟨gb153,1,none⟩ = some (.slice (some ad168) x154001_1.length co46) ∧ w'.cell? (ad168.add (x45_2).toNat) = some (.slice A168_0 (rd_L1 x154001_1 x45_2).length c168_0) ∧ w'.cell? ⟨go1_,(x45_2).toNat,none⟩ = some (.int .i64 (rd y158 x45_2))) (ds := []) #[false,false,false,false,false,false,false,false,false,false,false,false,false,false,false,false,false,false,false,false,false,false,false,false,false,false,false] (by kernel_rfl) rfl rfl ⟨(blk_cell BK153.out 0).trans rfl,(blk_cell BK153.out 1).trans rfl,hx168_0,hx169_0⟩ (fun hHeld => ?_);refine with_tabW impl_CloseSlot.tab14 impl_CloseSlot.bits14 (fun HT_ HW_ => ?_)
                  generalize wr.drew = w53 at HO_9 HO_36 HO_154000 HO_154001 BK141 BK142 BK153 HB HL168_0 HR168_0 hx168_0 hx169_0 hHeld ⊢;refine pure_ (i:=0) (N:=some 48) (v:=?_) (a':=?_) #[true,false,false,false,false,false,false,false,false,false,false,false,false,false,false,false,false,false,false,false,false,false,false,false,false,false,false] rfl rfl (any_of HT_.out (by kernel_rfl)) (fun _ _ _ h => h) (Or.inl ⟨by rfl, ?_⟩) ?_ ?_
                  rotate_left
                  ·intro w'
                   go_simp
                   with_reducible rfl
                  rotate_left
                  ·simp only [Act.put,sA_,s0_,s1_,i64_w,i32_w]
                   rfl
                  refine pure_ (i:=2) (N:=some 50) (v:=?_) (a':=?_) #[true,false,true,false,false,false,false,false,false,false,false,false,false,false,false,false,false,false,false,false,false,false,false,false,false,false,false] rfl rfl (any_of HT_.out (by kernel_rfl)) (fun _ _ _ h => h) (Or.inl ⟨by rfl, ?_⟩) ?_ ?_
                  rotate_left
                  ·intro w'
                   go_simp
                   with_reducible rfl
                  rotate_left
                  ·simp only [Act.put,sA_,s0_,s1_,i64_w,i32_w]
                   rfl
                  refine pure_ (i:=6) (N:=some 54) (v:=?_) (a':=?_) #[true,false,true,false,false,false,true,false,false,false,false,false,false,false,false,false,false,false,false,false,false,false,false,false,false,false,false] rfl rfl (any_of HT_.out (by kernel_rfl)) (fun _ _ _ h => h) (Or.inl ⟨by rfl, ?_⟩) ?_ ?_
                  rotate_left
                  ·intro w'
                   go_simp
                   with_reducible rfl
                  rotate_left
                  ·simp only [Act.put,sA_,s0_,s1_,i64_w,i32_w]
                   rfl
                  refine pure_ (i:=8) (N:=some 56) (v:=?_) (a':=?_) #[true,false,true,false,false,false,true,false,true,false,false,false,false,false,false,false,false,false,false,false,false,false,false,false,false,false,false] rfl rfl (any_of HT_.out (by kernel_rfl)) (fun _ _ _ h => h) (Or.inl ⟨by rfl, ?_⟩) ?_ ?_
                  rotate_left
                  ·intro w'
                   go_simp
                   with_reducible rfl
                  rotate_left
                  ·simp only [Act.put,sA_,s0_,s1_,i64_w,i32_w]
                   rfl
                  refine take_ (i:=1) (N:=some 49) (v:=?_) (a':=?_) #[true,true,true,false,false,false,true,false,true,false,false,false,false,false,false,false,false,false,false,false,false,false,false,false,false,false,false] rfl rfl (take_ofW HT_.out HW_.out (by kernel_rfl)) (fun _ _ _ h => h) (Or.inl ⟨by rfl, ?_⟩) hHeld ?_ ?_
                  rotate_left
                  ·rintro w' ⟨s0,s1,s2,s3⟩
                   go_simp
                   with_reducible rfl
                  rotate_left
                  ·simp only [Act.put,sA_,s0_,s1_,i64_w,i32_w]
                   rfl
                  refine pure_ (i:=3) (N:=some 51) (v:=?_) (a':=?_) #[true,true,true,true,false,false,true,false,true,false,false,false,false,false,false,false,false,false,false,false,false,false,false,false,false,false,false] rfl rfl (any_of HT_.out (by kernel_rfl)) (fun _ _ _ h => h) (Or.inl ⟨by rfl, ?_⟩) ?_ ?_
                  rotate_left
                  ·intro w'
                   go_simp
                   with_reducible rfl
                  rotate_left
                  ·simp only [Act.put,sA_,s0_,s1_,i64_w,i32_w]
                   rfl
                  refine take_ (i:=4) (N:=some 52) (v:=?_) (a':=?_) #[true,true,true,true,true,false,true,false,true,false,false,false,false,false,false,false,false,false,false,false,false,false,false,false,false,false,false] rfl rfl (take_ofW HT_.out HW_.out (by kernel_rfl)) (fun _ _ _ h => h) (Or.inl ⟨by rfl, ?_⟩) hHeld ?_ ?_
                  rotate_left
                  ·rintro w' ⟨s0,s1,s2,s3⟩
                   go_simp
                   with_reducible rfl
                  rotate_left
                  ·simp only [Act.put,sA_,s0_,s1_,i64_w,i32_w]
                   rfl
                  refine pure_ (i:=5) (N:=some 53) (v:=?_) (a':=?_) #[true,true,true,true,true,true,true,false,true,false,false,false,false,false,false,false,false,false,false,false,false,false,false,false,false,false,false] rfl rfl (any_of HT_.out (by kernel_rfl)) (fun _ _ _ h => h) (Or.inl ⟨by rfl, ?_⟩) ?_ ?_
                  rotate_left
                  ·intro w'
                   go_simp
                   with_reducible rfl
                  rotate_left
                  ·simp only [Act.put,sA_,s0_,s1_,i64_w,i32_w]
                   rfl
                  refine take_ (i:=7) (N:=some 55) (v:=?_) (a':=?_) #[true,true,true,true,true,true,true,true,true,false,false,false,false,false,false,false,false,false,false,false,false,false,false,false,false,false,false] rfl rfl (take_ofW HT_.out HW_.out (by kernel_rfl)) (fun _ _ _ h => h) (Or.inl ⟨by rfl, ?_⟩) hHeld ?_ ?_
                  rotate_left
                  ·rintro w' ⟨s0,s1,s2,s3⟩
                   go_simp
                   with_reducible rfl
                  rotate_left
                  ·simp only [Act.put,sA_,s0_,s1_,i64_w,i32_w]
                   rfl
                  refine pure_ (i:=9) (N:=some 57) (v:=?_) (a':=?_) #[true,true,true,true,true,true,true,true,true,true,false,false,false,false,false,false,false,false,false,false,false,false,false,false,false,false,false] rfl rfl (any_of HT_.out (by kernel_rfl)) (fun _ _ _ h => h) (Or.inl ⟨by rfl, ?_⟩) ?_ ?_
                  rotate_left
                  ·intro w'
                   go_simp
                   with_reducible rfl
                  rotate_left
                  ·simp only [Act.put,sA_,s0_,s1_,i64_w,i32_w]
                   rfl
                  refine take_ (i:=10) (N:=some 58) (v:=?_) (a':=?_) #[true,true,true,true,true,true,true,true,true,true,true,false,false,false,false,false,false,false,false,false,false,false,false,false,false,false,false] rfl rfl (take_ofW HT_.out HW_.out (by kernel_rfl)) (fun _ _ _ h => h) (Or.inl ⟨by rfl, ?_⟩) hHeld ?_ ?_
                  rotate_left
                  ·rintro w' ⟨s0,s1,s2,s3⟩
                   go_simp
                   with_reducible rfl
                  rotate_left
                  ·simp only [Act.put,sA_,s0_,s1_,i64_w,i32_w]
                   rfl
                  refine pure_ (i:=11) (N:=some 59) (v:=?_) (a':=?_) #[true,true,true,true,true,true,true,true,true,true,true,true,false,false,false,false,false,false,false,false,false,false,false,false,false,false,false] rfl rfl (any_of HT_.out (by kernel_rfl)) (fun _ _ _ h => h) (Or.inl ⟨by rfl, ?_⟩) ?_ ?_
                  rotate_left
                  ·intro w'
                   go_simp
                   with_reducible rfl
                  rotate_left
                  ·simp only [Act.put,sA_,s0_,s1_,i64_w,i32_w]
                   rfl
                  refine pure_ (i:=12) (N:=some 60) (v:=?_) (a':=?_) #[true,true,true,true,true,true,true,true,true,true,true,true,true,false,false,false,false,false,false,false,false,false,false,false,false,false,false] rfl rfl (any_of HT_.out (by kernel_rfl)) (fun _ _ _ h => h) (Or.inl ⟨by rfl, ?_⟩) ?_ ?_
                  rotate_left
                  ·intro w'
                   go_simp
                   with_reducible rfl
                  rotate_left
                  ·simp only [Act.put,sA_,s0_,s1_,i64_w,i32_w]
                   rfl
                  refine pure_ (i:=13) (N:=some 61) (v:=?_) (a':=?_) #[true,true,true,true,true,true,true,true,true,true,true,true,true,true,false,false,false,false,false,false,false,false,false,false,false,false,false] rfl rfl (any_of HT_.out (by kernel_rfl)) (fun _ _ _ h => h) (Or.inl ⟨by rfl, ?_⟩) ?_ ?_
                  rotate_left
                  ·intro w'
                   go_simp
                   with_reducible rfl
                  rotate_left
                  ·simp only [Act.put,sA_,s0_,s1_,i64_w,i32_w]
                   rfl
                  refine pure_ (i:=14) (N:=some 62) (v:=?_) (a':=?_) #[true,true,true,true,true,true,true,true,true,true,true,true,true,true,true,false,false,false,false,false,false,false,false,false,false,false,false] rfl rfl (any_of HT_.out (by kernel_rfl)) (fun _ _ _ h => h) (Or.inl ⟨by rfl, ?_⟩) ?_ ?_
                  rotate_left
                  ·intro w'
                   go_simp
                   with_reducible rfl
                  rotate_left
                  ·simp only [Act.put,sA_,s0_,s1_,i64_w,i32_w]
                   rfl
                  refine pure_ (i:=15) (N:=some 63) (v:=?_) (a':=?_) #[true,true,true,true,true,true,true,true,true,true,true,true,true,true,true,true,false,false,false,false,false,false,false,false,false,false,false] rfl rfl (any_of HT_.out (by kernel_rfl)) (fun _ _ _ h => h) (Or.inl ⟨by rfl, ?_⟩) ?_ ?_
                  rotate_left
                  ·intro w'
                   go_simp
                   with_reducible rfl
                  rotate_left
                  ·simp only [Act.put,sA_,s0_,s1_,i64_w,i32_w]
                   rfl
                  refine pure_ (i:=16) (N:=some 64) (v:=undef) (a':=?_) #[true,true,true,true,true,true,true,true,true,true,true,true,true,true,true,true,true,false,false,false,false,false,false,false,false,false,false] rfl rfl (any_of HT_.out (by kernel_rfl)) (fun _ _ _ h => h) (Or.inr ⟨by rfl,rfl⟩) ?_ ?_
                  rotate_left
                  ·simp only [Act.put,sA_,s0_,s1_,i64_w,i32_w]
                   rfl
                  refine pure_ (i:=17) (N:=some 65) (v:=undef) (a':=?_) #[true,true,true,true,true,true,true,true,true,true,true,true,true,true,true,true,true,true,false,false,false,false,false,false,false,false,false] rfl rfl (any_of HT_.out (by kernel_rfl)) (fun _ _ _ h => h) (Or.inr ⟨by rfl,rfl⟩) ?_ ?_
                  rotate_left
                  ·simp only [Act.put,sA_,s0_,s1_,i64_w,i32_w]
                   rfl
                  refine pure_ (i:=18) (N:=some 66) (v:=undef) (a':=?_) #[true,true,true,true,true,true,true,true,true,true,true,true,true,true,true,true,true,true,true,false,false,false,false,false,false,false,false] rfl rfl (any_of HT_.out (by kernel_rfl)) (fun _ _ _ h => h) (Or.inr ⟨by rfl,rfl⟩) ?_ ?_
                  rotate_left
                  ·simp only [Act.put,sA_,s0_,s1_,i64_w,i32_w]
                   rfl
                  refine pure_ (i:=19) (N:=some 67) (v:=undef) (a':=?_) #[true,true,true,true,true,true,true,true,true,true,true,true,true,true,true,true,true,true,true,true,false,false,false,false,false,false,false] rfl rfl (any_of HT_.out (by kernel_rfl)) (fun _ _ _ h => h) (Or.inr ⟨by rfl,rfl⟩) ?_ ?_
                  rotate_left
                  ·simp only [Act.put,sA_,s0_,s1_,i64_w,i32_w]
                   rfl
                  refine pure_ (i:=20) (N:=some 68) (v:=undef) (a':=?_) #[true,true,true,true,true,true,true,true,true,true,true,true,true,true,true,true,true,true,true,true,true,false,false,false,false,false,false] rfl rfl (any_of HT_.out (by kernel_rfl)) (fun _ _ _ h => h) (Or.inr ⟨by rfl,rfl⟩) ?_ ?_
                  rotate_left
                  ·simp only [Act.put,sA_,s0_,s1_,i64_w,i32_w]
                   rfl
                  refine pure_ (i:=21) (N:=some 69) (v:=undef) (a':=?_) #[true,true,true,true,true,true,true,true,true,true,true,true,true,true,true,true,true,true,true,true,true,true,false,false,false,false,false] rfl rfl (any_of HT_.out (by kernel_rfl)) (fun _ _ _ h => h) (Or.inr ⟨by rfl,rfl⟩) ?_ ?_
                  rotate_left
                  ·simp only [Act.put,sA_,s0_,s1_,i64_w,i32_w]
                   rfl
                  refine pure_ (i:=22) (N:=some 70) (v:=undef) (a':=?_) #[true,true,true,true,true,true,true,true,true,true,true,true,true,true,true,true,true,true,true,true,true,true,true,false,false,false,false] rfl rfl (any_of HT_.out (by kernel_rfl)) (fun _ _ _ h => h) (Or.inr ⟨by rfl,rfl⟩) ?_ ?_
                  rotate_left
                  ·simp only [Act.put,sA_,s0_,s1_,i64_w,i32_w]
                   rfl
                  refine pure_ (i:=23) (N:=some 71) (v:=undef) (a':=?_) #[true,true,true,true,true,true,true,true,true,true,true,true,true,true,true,true,true,true,true,true,true,true,true,true,false,false,false] rfl rfl (any_of HT_.out (by kernel_rfl)) (fun _ _ _ h => h) (Or.inr ⟨by rfl,rfl⟩) ?_ ?_
                  rotate_left
                  ·simp only [Act.put,sA_,s0_,s1_,i64_w,i32_w]
                   rfl
                  refine pure_ (i:=24) (N:=some 72) (v:=undef) (a':=?_) #[true,true,true,true,true,true,true,true,true,true,true,true,true,true,true,true,true,true,true,true,true,true,true,true,true,false,false] rfl rfl (any_of HT_.out (by kernel_rfl)) (fun _ _ _ h => h) (Or.inr ⟨by rfl,rfl⟩) ?_ ?_
                  rotate_left
                  ·simp only [Act.put,sA_,s0_,s1_,i64_w,i32_w]
                   rfl
                  refine pure_ (i:=25) (N:=some 73) (v:=?_) (a':=?_) #[true,true,true,true,true,true,true,true,true,true,true,true,true,true,true,true,true,true,true,true,true,true,true,true,true,true,false] rfl rfl (any_of HT_.out (by kernel_rfl)) (fun _ _ _ h => h) (Or.inl ⟨by rfl, ?_⟩) ?_ ?_
                  rotate_left
                  ·intro w'
                   go_simp
                   with_reducible rfl
                  rotate_left
                  ·simp only [Act.put,sA_,s0_,s1_,i64_w,i32_w]
                   rfl
                  refine pure_ (i:=26) (N:=some 74) (v:=?_) (a':=?_) #[true,true,true,true,true,true,true,true,true,true,true,true,true,true,true,true,true,true,true,true,true,true,true,true,true,true,true] rfl rfl (any_of HT_.out (by kernel_rfl)) (fun _ _ _ h => h) (Or.inl ⟨by rfl, ?_⟩) ?_ ?_
                  rotate_left
                  ·intro w'
                   go_simp
                   with_reducible rfl
                  rotate_left
                  ·simp only [Act.put,sA_,s0_,s1_,i64_w,i32_w]
                   rfl
                  refine done_ (done_of HT_.out (by kernel_rfl)) ?_
                  try go_wp2
                  go_roundg k2
                  case measure => have:=HK1.out;have:=HK2.out;omega
                  case rel => exact ⟨(x45_2),(wrap64 (x45_2 + 1)),(by first | rfl | (simp;done) | (simp [*];done)),(by first | rfl | (simp;done) | (simp [*];done)),H',⟨by have:=HK1.out;have:=HK2.out;omega⟩,⟨by (try simp only [hl154000_1]);(with_reducible repeat (first | apply Kd.R_alloc | apply Kd.R_drewN | apply Kd.R_drew));exact HO_9.out⟩,⟨by (try simp only [hl154000_1]);(with_reducible repeat (first | apply Kd.R_alloc | apply Kd.R_drewN | apply Kd.R_drew));exact HO_36.out⟩,⟨by (try simp only [hl154000_1]);(with_reducible repeat (first | apply Kd.R_alloc | apply Kd.R_drewN | apply Kd.R_drew));exact HO_154000.out⟩,⟨by (try simp only [hl154000_1]);(with_reducible repeat (first | apply Kd.S_alloc | apply Kd.S_drewN | apply Kd.S_drew));exact HO_154001.out⟩,⟨by (try simp only [hl154000_1]);(with_reducible repeat (first | refine blk_drewN ?_ _ | refine blk_drew ?_ | refine blk_alloc ?_ _));exact BK141.out⟩,⟨by (try simp only [hl154000_1]);(with_reducible repeat (first | refine blk_drewN ?_ _ | refine blk_drew ?_ | refine blk_alloc ?_ _));exact BK142.out⟩,⟨by (try simp only [hl154000_1]);(with_reducible repeat (first | refine blk_drewN ?_ _ | refine blk_drew ?_ | refine blk_alloc ?_ _));exact BK153.out⟩,⟨by repeat (first | (with_reducible first | exact HB.out | apply below_alloc | apply pw_below_drewN | apply below_drew1 | refine below_set ?_ GE141.out | refine below_set ?_ GE142.out | refine below_set ?_ GE153.out) | exact HB.out)⟩⟩
                 ·rw [if_neg c52] at H;have c52b0 : decide (x12_2 < 0) = false:=decide_eq_false c52;clear c52;replace H:=Option.bind_eq_some_iff.mp H;obtain ⟨t170,A540,H⟩ := H;replace H : ((impl_size.f (wrap64 (x12_2 - a1))).bind fun t171 => (if t170 < t171 then (impl_CloseSlot.l1 k2 a1 x9_1 (rd t155 x38_1) x45_2 t155 (t155.length : Int) x38_1 (x154001_1.length : Int) (wrap64 (x45_2 + 1)) y158 x154001_1) else (impl_CloseSlot.l1 k2 a1 x9_1 (rd t155 x38_1) x12_2 t155 (t155.length : Int) x38_1 (x154001_1.length : Int) (wrap64 (x45_2 + 1)) y158 x154001_1))) = some (r1,r2,r3,r4):=H;have A54:=am_ A540;clear A540;replace H:=Option.bind_eq_some_iff.mp H;obtain ⟨t171,A550,H⟩ := H;replace H : (if t170 < t171 then (impl_CloseSlot.l1 k2 a1 x9_1 (rd t155 x38_1) x45_2 t155 (t155.length : Int) x38_1 (x154001_1.length : Int) (wrap64 (x45_2 + 1)) y158 x154001_1) else (impl_CloseSlot.l1 k2 a1 x9_1 (rd t155 x38_1) x12_2 t155 (t155.length : Int) x38_1 (x154001_1.length : Int) (wrap64 (x45_2 + 1)) y158 x154001_1)) = some (r1,r2,r3,r4):=H;have A55:=am_ A550;clear A550
                  by_cases c56 : t170 < t171
                  ·rw [if_pos c56] at H;have c56b0 : decide (t170 < t171) = true:=decide_eq_true c56;clear c56;have H':=am_ H;clear H
                   try go_wp2
                   have n0_:=am_ (Kd.R_drew HO_9.out);have n1_:=am_ (Kd.R_drew HO_36.out);have n2_:=am_ (Kd.R_drew HO_154000.out);have n3_:=am_ (Kd.S_drew HO_154001.out);have n4_:=am_ (blk_drew BK141.out);have n5_:=am_ (blk_drew BK142.out);have n6_:=am_ (blk_drew BK153.out);have n7_:=am_ (below_drew1 HB.out);clear HO_9;clear HO_36;clear HO_154000;clear HO_154001;clear BK141;clear BK142;clear BK153;clear HB;have HO_9:=n0_;have HO_36:=n1_;have HO_154000:=n2_;have HO_154001:=n3_;have BK141:=n4_;have BK142:=n5_;have BK153:=n6_;have HB:=n7_;clear n0_ n1_ n2_ n3_ n4_ n5_ n6_ n7_;have p168 : 0 ≤ (x45_2 : Int):=of_decide_eq_true (by first | (with_reducible assumption) | assumption);have q168 : x45_2 < (x154001_1.length : Int):=of_decide_eq_true (by first | (with_reducible assumption) | assumption);obtain ⟨ad168,A168_0,c168_0,e168,hx168_0,hl168_0,hi168_0⟩ := at_L1 (Kd.S_reads' HO_154001.out).2.2 x45_2 p168 q168;cases e168;obtain ⟨ce168,hce168,hMe168,hcc168⟩ := Kd.S_get HO_154001.out [] x45_2 p168 (by first | exact q168 | exact of_decide_eq_true (by first | (with_reducible assumption) | assumption) | (have e_:=(Kd.S_reads' HO_154001.out).1;omega));obtain ⟨ve168_0,rfl,ge168_0⟩ := hMe168;have hv168_0:=hcc168 0 _ rfl;rw [Nat.add_zero,show ((Kd.slice 3 (Kd.int .i64))).sz = 1 from rfl,Nat.mul_one] at hv168_0;replace hv168_0:=Option.some.inj (hv168_0.symm.trans hx168_0);rw [hv168_0] at ge168_0;have HL168_0:=am_ (show Kd.R (Kd.int .i64) 3 _ _ _ _ (rd_L1 x154001_1 x45_2) from ge168_0);clear hv168_0 ge168_0;clear hcc168 hce168;have HR168_0:=am_ hi168_0;have HC168_0:=am_ hl168_0;clear hi168_0 hl168_0;replace p168:=eq_true p168;replace q168:=eq_true q168;have p169 : 0 ≤ (x45_2 : Int):=of_decide_eq_true (by first | (with_reducible assumption) | assumption);have q169 : x45_2 < (y158.length : Int):=of_decide_eq_true (by first | (with_reducible assumption) | assumption);obtain ⟨ad169,e169,hx169_0⟩ := Kd.at_int (Kd.R_reads' HO_154000.out).2.2 x45_2 p169 q169;obtain rfl : (⟨go1_,0,none⟩ : Addr) = ad169:=(by injection e169)
                   (first | simp only [add_plain] at hx169_0 | simp only [add_at] at hx169_0 | simp only [Addr.add,Nat.zero_add] at hx169_0 | skip)
                   replace p169:=eq_true p169;replace q169:=eq_true q169
                   refine start_ (n:=27) (S:=fun w' => w'.cell? ⟨gb153,0,none⟩ = some (.slice (some ⟨go1_,0,none⟩) y158.length co23) ∧ w'.cell? ⟨gb153,1,none⟩ = some (.slice (some ad168) x154001_1.length co46) ∧ w'.cell? (ad168.add (x45_2).toNat) = some (.slice A168_0 (rd_L1 x154001_1 x45_2).length c168_0) ∧ w'.cell? ⟨go1_,(x45_2).toNat,none⟩ = some (.int .i64 (rd y158 x45_2))) (ds := []) #[false,false,false,false,false,false,false,false,false,false,false,false,false,false,false,false,false,false,false,false,false,false,false,false,false,false,false] (by kernel_rfl) rfl rfl ⟨(blk_cell BK153.out 0).trans rfl,(blk_cell BK153.out 1).trans rfl,hx168_0,hx169_0⟩ (fun hHeld => ?_);refine with_tabW impl_CloseSlot.tab14 impl_CloseSlot.bits14 (fun HT_ HW_ => ?_)
                   generalize wr.drew = w57 at HO_9 HO_36 HO_154000 HO_154001 BK141 BK142 BK153 HB HL168_0 HR168_0 hx168_0 hx169_0 hHeld ⊢;refine pure_ (i:=0) (N:=some 48) (v:=?_) (a':=?_) #[true,false,false,false,false,false,false,false,false,false,false,false,false,false,false,false,false,false,false,false,false,false,false,false,false,false,false] rfl rfl (any_of HT_.out (by kernel_rfl)) (fun _ _ _ h => h) (Or.inl ⟨by rfl, ?_⟩) ?_ ?_
                   rotate_left
                   ·intro w'
                    go_simp
                    with_reducible rfl
                   rotate_left
                   ·simp only [Act.put,sA_,s0_,s1_,i64_w,i32_w]
                    rfl
                   refine pure_ (i:=2) (N:=some 50) (v:=?_) (a':=?_) #[true,false,true,false,false,false,false,false,false,false,false,false,false,false,false,false,false,false,false,false,false,false,false,false,false,false,false] rfl rfl (any_of HT_.out (by kernel_rfl)) (fun _ _ _ h => h) (Or.inl ⟨by rfl, ?_⟩) ?_ ?_
                   rotate_left
                   ·intro w'
                    go_simp
                    with_reducible rfl
                   rotate_left
                   ·simp only [Act.put,sA_,s0_,s1_,i64_w,i32_w]
                    rfl
                   refine pure_ (i:=6) (N:=some 54) (v:=?_) (a':=?_) #[true,false,true,false,false,false,true,false,false,false,false,false,false,false,false,false,false,false,false,false,false,false,false,false,false,false,false] rfl rfl (any_of HT_.out (by kernel_rfl)) (fun _ _ _ h => h) (Or.inl ⟨by rfl, ?_⟩) ?_ ?_
                   rotate_left
                   ·intro w'
                    go_simp
                    with_reducible rfl
                   rotate_left
                   ·simp only [Act.put,sA_,s0_,s1_,i64_w,i32_w]
                    rfl
                   refine pure_ (i:=8) (N:=some 56) (v:=?_) (a':=?_) #[true,false,true,false,false,false,true,false,true,false,false,false,false,false,false,false,false,false,false,false,false,false,false,false,false,false,false] rfl rfl (any_of HT_.out (by kernel_rfl)) (fun _ _ _ h => h) (Or.inl ⟨by rfl, ?_⟩) ?_ ?_
                   rotate_left
                   ·intro w'
                    go_simp
                    with_reducible rfl
                   rotate_left
                   ·simp only [Act.put,sA_,s0_,s1_,i64_w,i32_w]
                    rfl
                   refine take_ (i:=1) (N:=some 49) (v:=?_) (a':=?_) #[true,true,true,false,false,false,true,false,true,false,false,false,false,false,false,false,false,false,false,false,false,false,false,false,false,false,false] rfl rfl (take_ofW HT_.out HW_.out (by kernel_rfl)) (fun _ _ _ h => h) (Or.inl ⟨by rfl, ?_⟩) hHeld ?_ ?_
                   rotate_left
                   ·rintro w' ⟨s0,s1,s2,s3⟩
                    go_simp
                    with_reducible rfl
                   rotate_left
                   ·simp only [Act.put,sA_,s0_,s1_,i64_w,i32_w]
                    rfl
                   refine pure_ (i:=3) (N:=some 51) (v:=?_) (a':=?_) #[true,true,true,true,false,false,true,false,true,false,false,false,false,false,false,false,false,false,false,false,false,false,false,false,false,false,false] rfl rfl (any_of HT_.out (by kernel_rfl)) (fun _ _ _ h => h) (Or.inl ⟨by rfl, ?_⟩) ?_ ?_
                   rotate_left
                   ·intro w'
                    go_simp
                    with_reducible rfl
                   rotate_left
                   ·simp only [Act.put,sA_,s0_,s1_,i64_w,i32_w]
                    rfl
                   refine take_ (i:=4) (N:=some 52) (v:=?_) (a':=?_) #[true,true,true,true,true,false,true,false,true,false,false,false,false,false,false,false,false,false,false,false,false,false,false,false,false,false,false] rfl rfl (take_ofW HT_.out HW_.out (by kernel_rfl)) (fun _ _ _ h => h) (Or.inl ⟨by rfl, ?_⟩) hHeld ?_ ?_
                   rotate_left
                   ·rintro w' ⟨s0,s1,s2,s3⟩
                    go_simp
                    with_reducible rfl
                   rotate_left
                   ·simp only [Act.put,sA_,s0_,s1_,i64_w,i32_w]
                    rfl
                   refine pure_ (i:=5) (N:=some 53) (v:=?_) (a':=?_) #[true,true,true,true,true,true,true,false,true,false,false,false,false,false,false,false,false,false,false,false,false,false,false,false,false,false,false] rfl rfl (any_of HT_.out (by kernel_rfl)) (fun _ _ _ h => h) (Or.inl ⟨by rfl, ?_⟩) ?_ ?_
                   rotate_left
                   ·intro w'
                    go_simp
                    with_reducible rfl
                   rotate_left
                   ·simp only [Act.put,sA_,s0_,s1_,i64_w,i32_w]
                    rfl
                   refine take_ (i:=7) (N:=some 55) (v:=?_) (a':=?_) #[true,true,true,true,true,true,true,true,true,false,false,false,false,false,false,false,false,false,false,false,false,false,false,false,false,false,false] rfl rfl (take_ofW HT_.out HW_.out (by kernel_rfl)) (fun _ _ _ h => h) (Or.inl ⟨by rfl, ?_⟩) hHeld ?_ ?_
                   rotate_left
                   ·rintro w' ⟨s0,s1,s2,s3⟩
                    go_simp
                    with_reducible rfl
                   rotate_left
                   ·simp only [Act.put,sA_,s0_,s1_,i64_w,i32_w]
                    rfl
                   refine pure_ (i:=9) (N:=some 57) (v:=?_) (a':=?_) #[true,true,true,true,true,true,true,true,true,true,false,false,false,false,false,false,false,false,false,false,false,false,false,false,false,false,false] rfl rfl (any_of HT_.out (by kernel_rfl)) (fun _ _ _ h => h) (Or.inl ⟨by rfl, ?_⟩) ?_ ?_
                   rotate_left
                   ·intro w'
                    go_simp
                    with_reducible rfl
                   rotate_left
                   ·simp only [Act.put,sA_,s0_,s1_,i64_w,i32_w]
                    rfl
                   refine take_ (i:=10) (N:=some 58) (v:=?_) (a':=?_) #[true,true,true,true,true,true,true,true,true,true,true,false,false,false,false,false,false,false,false,false,false,false,false,false,false,false,false] rfl rfl (take_ofW HT_.out HW_.out (by kernel_rfl)) (fun _ _ _ h => h) (Or.inl ⟨by rfl, ?_⟩) hHeld ?_ ?_
                   rotate_left
                   ·rintro w' ⟨s0,s1,s2,s3⟩
                    go_simp
                    with_reducible rfl
                   rotate_left
                   ·simp only [Act.put,sA_,s0_,s1_,i64_w,i32_w]
                    rfl
                   refine pure_ (i:=11) (N:=some 59) (v:=?_) (a':=?_) #[true,true,true,true,true,true,true,true,true,true,true,true,false,false,false,false,false,false,false,false,false,false,false,false,false,false,false] rfl rfl (any_of HT_.out (by kernel_rfl)) (fun _ _ _ h => h) (Or.inl ⟨by rfl, ?_⟩) ?_ ?_
                   rotate_left
                   ·intro w'
                    go_simp
                    with_reducible rfl
                   rotate_left
                   ·simp only [Act.put,sA_,s0_,s1_,i64_w,i32_w]
                    rfl
                   refine pure_ (i:=12) (N:=some 60) (v:=?_) (a':=?_) #[true,true,true,true,true,true,true,true,true,true,true,true,true,false,false,false,false,false,false,false,false,false,false,false,false,false,false] rfl rfl (any_of HT_.out (by kernel_rfl)) (fun _ _ _ h => h) (Or.inl ⟨by rfl, ?_⟩) ?_ ?_
                   rotate_left
                   ·intro w'
                    go_simp
                    with_reducible rfl
                   rotate_left
                   ·simp only [Act.put,sA_,s0_,s1_,i64_w,i32_w]
                    rfl
                   refine pure_ (i:=13) (N:=some 61) (v:=?_) (a':=?_) #[true,true,true,true,true,true,true,true,true,true,true,true,true,true,false,false,false,false,false,false,false,false,false,false,false,false,false] rfl rfl (any_of HT_.out (by kernel_rfl)) (fun _ _ _ h => h) (Or.inl ⟨by rfl, ?_⟩) ?_ ?_
                   rotate_left
                   ·intro w'
                    go_simp
                    with_reducible rfl
                   rotate_left
                   ·simp only [Act.put,sA_,s0_,s1_,i64_w,i32_w]
                    rfl
                   refine pure_ (i:=14) (N:=some 62) (v:=?_) (a':=?_) #[true,true,true,true,true,true,true,true,true,true,true,true,true,true,true,false,false,false,false,false,false,false,false,false,false,false,false] rfl rfl (any_of HT_.out (by kernel_rfl)) (fun _ _ _ h => h) (Or.inl ⟨by rfl, ?_⟩) ?_ ?_
                   rotate_left
                   ·intro w'
                    go_simp
                    with_reducible rfl
                   rotate_left
                   ·simp only [Act.put,sA_,s0_,s1_,i64_w,i32_w]
                    rfl
                   refine pure_ (i:=15) (N:=some 63) (v:=?_) (a':=?_) #[true,true,true,true,true,true,true,true,true,true,true,true,true,true,true,true,false,false,false,false,false,false,false,false,false,false,false] rfl rfl (any_of HT_.out (by kernel_rfl)) (fun _ _ _ h => h) (Or.inl ⟨by rfl, ?_⟩) ?_ ?_
                   rotate_left
                   ·intro w'
                    go_simp
                    with_reducible rfl
                   rotate_left
                   ·simp only [Act.put,sA_,s0_,s1_,i64_w,i32_w]
                    rfl
                   refine pure_ (i:=16) (N:=some 64) (v:=?_) (a':=?_) #[true,true,true,true,true,true,true,true,true,true,true,true,true,true,true,true,true,false,false,false,false,false,false,false,false,false,false] rfl rfl (any_of HT_.out (by kernel_rfl)) (fun _ _ _ h => h) (Or.inl ⟨by rfl, ?_⟩) ?_ ?_
                   rotate_left
                   ·intro w'
                    go_simp
                    with_reducible rfl
                   rotate_left
                   ·simp only [Act.put,sA_,s0_,s1_,i64_w,i32_w]
                    rfl
                   refine pure_ (i:=17) (N:=some 65) (v:=?_) (a':=?_) #[true,true,true,true,true,true,true,true,true,true,true,true,true,true,true,true,true,true,false,false,false,false,false,false,false,false,false] rfl rfl (any_of HT_.out (by kernel_rfl)) (fun _ _ _ h => h) (Or.inl ⟨by rfl, ?_⟩) ?_ ?_
                   rotate_left
                   ·intro w'
                    go_simp
                    with_reducible rfl
                   rotate_left
                   ·simp only [Act.put,sA_,s0_,s1_,i64_w,i32_w]
                    rfl
                   refine pure_ (i:=18) (N:=some 66) (v:=?_) (a':=?_) #[true,true,true,true,true,true,true,true,true,true,true,true,true,true,true,true,true,true,true,false,false,false,false,false,false,false,false] rfl rfl (any_of HT_.out (by kernel_rfl)) (fun _ _ _ h => h) (Or.inl ⟨by rfl, ?_⟩) ?_ ?_
                   rotate_left
                   ·intro w'
                    go_simp
                    with_reducible rfl
                   rotate_left
                   ·simp only [Act.put,sA_,s0_,s1_,i64_w,i32_w]
                    rfl
                   refine pure_ (i:=20) (N:=some 68) (v:=?_) (a':=?_) #[true,true,true,true,true,true,true,true,true,true,true,true,true,true,true,true,true,true,true,false,true,false,false,false,false,false,false] rfl rfl (any_of HT_.out (by kernel_rfl)) (fun _ _ _ h => h) (Or.inl ⟨by rfl, ?_⟩) ?_ ?_
                   rotate_left
                   ·intro w'
                    go_simp
                    with_reducible rfl
                   rotate_left
                   ·simp only [Act.put,sA_,s0_,s1_,i64_w,i32_w]
                    rfl
                   refine pure_ (i:=21) (N:=some 69) (v:=?_) (a':=?_) #[true,true,true,true,true,true,true,true,true,true,true,true,true,true,true,true,true,true,true,false,true,true,false,false,false,false,false] rfl rfl (any_of HT_.out (by kernel_rfl)) (fun _ _ _ h => h) (Or.inl ⟨by rfl, ?_⟩) ?_ ?_
                   rotate_left
                   ·intro w'
                    go_simp
                    with_reducible rfl
                   rotate_left
                   ·simp only [Act.put,sA_,s0_,s1_,i64_w,i32_w]
                    rfl
                   refine pure_ (i:=22) (N:=some 70) (v:=?_) (a':=?_) #[true,true,true,true,true,true,true,true,true,true,true,true,true,true,true,true,true,true,true,false,true,true,true,false,false,false,false] rfl rfl (any_of HT_.out (by kernel_rfl)) (fun _ _ _ h => h) (Or.inl ⟨by rfl, ?_⟩) ?_ ?_
                   rotate_left
                   ·intro w'
                    go_simp
                    with_reducible rfl
                   rotate_left
                   ·simp only [Act.put,sA_,s0_,s1_,i64_w,i32_w]
                    rfl
                   refine one_ (i:=19) (N:=some 67) #[true,true,true,true,true,true,true,true,true,true,true,true,true,true,true,true,true,true,true,true,true,true,true,false,false,false,false] rfl rfl (one_of HT_.out (by kernel_rfl)) (by decide) (fun K hK => ?_);refine goes_ Try.func56 (by kernel_rfl) rfl #[.int .i64 (wrap64 (x45_2 - a1))] (by rfl) rfl rfl (by (try simp only [List.map_toArray,List.map_cons,List.map_nil]);first | done | rfl | (simp only [List.length_drop,List.length_take];rfl)) ?_
                   with_reducible refine (impl_size.calls (wrap64 (x45_2 - a1)) t170 _ A54.out).mono ?_
                   rintro e w58 ⟨rfl,hb⟩;have HS2_:=(hb.cell (World.block_lt_of_cell? _ _ (hHeld.2.2.1))).trans (hHeld.2.2.1);have HS3_:=(hb.cell (World.block_lt_of_cell? _ _ (hHeld.2.2.2))).trans (hHeld.2.2.2);refine ⟨_,rfl, ?_⟩;have n0_:=am_ (Kd.R_below (by (with_reducible repeat (first | apply Kd.R_alloc | apply Kd.R_drewN | apply Kd.R_drew));exact HO_9.out) hb);have n1_:=am_ (Kd.R_below (by (with_reducible repeat (first | apply Kd.R_alloc | apply Kd.R_drewN | apply Kd.R_drew));exact HO_36.out) hb);have n2_:=am_ (Kd.R_below (by (with_reducible repeat (first | apply Kd.R_alloc | apply Kd.R_drewN | apply Kd.R_drew));exact HO_154000.out) hb);have n3_:=am_ (Kd.S_below (by (with_reducible repeat (first | apply Kd.S_alloc | apply Kd.S_drewN | apply Kd.S_drew));exact HO_154001.out) hb);have n4_:=am_ (Kd.R_below (by (with_reducible repeat (first | apply Kd.R_alloc | apply Kd.R_drewN | apply Kd.R_drew));exact HL168_0.out) hb);have n5_:=am_ (blk_below (g:=gb141) (o := .cells #[.slice A0_0 l0_0.length c0_0, .slice A0_1 l0_1.length c0_1] 27 (0,0)) (by (with_reducible repeat (first | refine blk_drewN ?_ _ | refine blk_drew ?_ | refine blk_alloc ?_ _));exact BK141.out) hb);have n6_:=am_ (blk_below (g:=gb142) (o := .cells #[.slice none 0 0, .slice none 0 0] 27 (0,0)) (by (with_reducible repeat (first | refine blk_drewN ?_ _ | refine blk_drew ?_ | refine blk_alloc ?_ _));exact BK142.out) hb);have n7_:=am_ (blk_below (g:=gb153) (o := .cells #[.slice (some ⟨go1_,0,none⟩) y158.length co23, .slice (some ad168) x154001_1.length co46] 27 (0,0)) (by (with_reducible repeat (first | refine blk_drewN ?_ _ | refine blk_drew ?_ | refine blk_alloc ?_ _));exact BK153.out) hb);have n8_:=am_ (Kd.C_below (by repeat (first | (with_reducible exact HR168_0.out) | (with_reducible refine Kd.C_alloc ?_ _) | (with_reducible refine Kd.C_drewN ?_ _) | (with_reducible refine Kd.C_drew ?_) | exact HR168_0.out)) hb);have n9_:=am_ (below_step (by repeat (first | (with_reducible first | exact HB.out | apply below_alloc | apply pw_below_drewN | apply below_drew1 | refine below_set ?_ GE141.out | refine below_set ?_ GE142.out | refine below_set ?_ GE153.out) | exact HB.out)) hb);clear HO_9;clear HO_36;clear HO_154000;clear HO_154001;clear HL168_0;clear BK141;clear BK142;clear BK153;clear HR168_0;clear HB;have HO_9:=n0_;have HO_36:=n1_;have HO_154000:=n2_;have HO_154001:=n3_;have HL168_0:=n4_;have BK141:=n5_;have BK142:=n6_;have BK153:=n7_;have HR168_0:=n8_;have HB:=n9_;clear n0_ n1_ n2_ n3_ n4_ n5_ n6_ n7_ n8_ n9_;(try clear hb);(try clear hb2);(try clear hk);(try clear hi);refine hK.out _ _ ⟨(blk_cell BK153.out 0).trans rfl,(blk_cell BK153.out 1).trans rfl,HS2_,HS3_⟩ (fun hHeld => ?_);clear hK K;refine norm_ (a':=?_) ?_ ?_
                   rotate_left
                   ·show Act.put _ (some 67) _ = _
                    simp only [Act.put,sA_,s0_,s1_,i64_w,i32_w]
                    rfl
                   refine one_ (i:=23) (N:=some 71) #[true,true,true,true,true,true,true,true,true,true,true,true,true,true,true,true,true,true,true,true,true,true,true,true,false,false,false] rfl rfl (one_of HT_.out (by kernel_rfl)) (by decide) (fun K hK => ?_);refine goes_ Try.func56 (by kernel_rfl) rfl #[.int .i64 (wrap64 (x12_2 - a1))] (by rfl) rfl rfl (by (try simp only [List.map_toArray,List.map_cons,List.map_nil]);first | done | rfl | (simp only [List.length_drop,List.length_take];rfl)) ?_
                   with_reducible refine (impl_size.calls (wrap64 (x12_2 - a1)) t171 _ A55.out).mono ?_
                   rintro e w59 ⟨rfl,hb⟩;have HS2_:=(hb.cell (World.block_lt_of_cell? _ _ (hHeld.2.2.1))).trans (hHeld.2.2.1);have HS3_:=(hb.cell (World.block_lt_of_cell? _ _ (hHeld.2.2.2))).trans (hHeld.2.2.2);refine ⟨_,rfl, ?_⟩;have n0_:=am_ (Kd.R_below (by (with_reducible repeat (first | apply Kd.R_alloc | apply Kd.R_drewN | apply Kd.R_drew));exact HO_9.out) hb);have n1_:=am_ (Kd.R_below (by (with_reducible repeat (first | apply Kd.R_alloc | apply Kd.R_drewN | apply Kd.R_drew));exact HO_36.out) hb);have n2_:=am_ (Kd.R_below (by (with_reducible repeat (first | apply Kd.R_alloc | apply Kd.R_drewN | apply Kd.R_drew));exact HO_154000.out) hb);have n3_:=am_ (Kd.S_below (by (with_reducible repeat (first | apply Kd.S_alloc | apply Kd.S_drewN | apply Kd.S_drew));exact HO_154001.out) hb);have n4_:=am_ (Kd.R_below (by (with_reducible repeat (first | apply Kd.R_alloc | apply Kd.R_drewN | apply Kd.R_drew));exact HL168_0.out) hb);have n5_:=am_ (blk_below (g:=gb141) (o := .cells #[.slice A0_0 l0_0.length c0_0, .slice A0_1 l0_1.length c0_1] 27 (0,0)) (by (with_reducible repeat (first | refine blk_drewN ?_ _ | refine blk_drew ?_ | refine blk_alloc ?_ _));exact BK141.out) hb);have n6_:=am_ (blk_below (g:=gb142) (o := .cells #[.slice none 0 0, .slice none 0 0] 27 (0,0)) (by (with_reducible repeat (first | refine blk_drewN ?_ _ | refine blk_drew ?_ | refine blk_alloc ?_ _));exact BK142.out) hb);have n7_:=am_ (blk_below (g:=gb153) (o := .cells #[.slice (some ⟨go1_,0,none⟩) y158.length co23, .slice (some ad168) x154001_1.length co46] 27 (0,0)) (by (with_reducible repeat (first | refine blk_drewN ?_ _ | refine blk_drew ?_ | refine blk_alloc ?_ _));exact BK153.out) hb);have n8_:=am_ (Kd.C_below (by repeat (first | (with_reducible exact HR168_0.out) | (with_reducible refine Kd.C_alloc ?_ _) | (with_reducible refine Kd.C_drewN ?_ _) | (with_reducible refine Kd.C_drew ?_) | exact HR168_0.out)) hb);have n9_:=am_ (below_step (by repeat (first | (with_reducible first | exact HB.out | apply below_alloc | apply pw_below_drewN | apply below_drew1 | refine below_set ?_ GE141.out | refine below_set ?_ GE142.out | refine below_set ?_ GE153.out) | exact HB.out)) hb);clear HO_9;clear HO_36;clear HO_154000;clear HO_154001;clear HL168_0;clear BK141;clear BK142;clear BK153;clear HR168_0;clear HB;have HO_9:=n0_;have HO_36:=n1_;have HO_154000:=n2_;have HO_154001:=n3_;have HL168_0:=n4_;have BK141:=n5_;have BK142:=n6_;have BK153:=n7_;have HR168_0:=n8_;have HB:=n9_;clear n0_ n1_ n2_ n3_ n4_ n5_ n6_ n7_ n8_ n9_;(try clear hb);(try clear hb2);(try clear hk);(try clear hi);refine hK.out _ _ ⟨(blk_cell BK153.out 0).trans rfl,(blk_cell BK153.out 1).trans rfl,HS2_,HS3_⟩ (fun hHeld => ?_);clear hK K;refine norm_ (a':=?_) ?_ ?_
                   rotate_left
                   ·show Act.put _ (some 71) _ = _
                    simp only [Act.put,sA_,s0_,s1_,i64_w,i32_w]
                    rfl
                   refine pure_ (i:=24) (N:=some 72) (v:=?_) (a':=?_) #[true,true,true,true,true,true,true,true,true,true,true,true,true,true,true,true,true,true,true,true,true,true,true,true,true,false,false] rfl rfl (any_of HT_.out (by kernel_rfl)) (fun _ _ _ h => h) (Or.inl ⟨by rfl, ?_⟩) ?_ ?_
                   rotate_left
                   ·intro w'
                    go_simp
                    with_reducible rfl
                   rotate_left
                   ·simp only [Act.put,sA_,s0_,s1_,i64_w,i32_w]
                    rfl
                   refine pure_ (i:=25) (N:=some 73) (v:=?_) (a':=?_) #[true,true,true,true,true,true,true,true,true,true,true,true,true,true,true,true,true,true,true,true,true,true,true,true,true,true,false] rfl rfl (any_of HT_.out (by kernel_rfl)) (fun _ _ _ h => h) (Or.inl ⟨by rfl, ?_⟩) ?_ ?_
                   rotate_left
                   ·intro w'
                    go_simp
                    with_reducible rfl
                   rotate_left
                   ·simp only [Act.put,sA_,s0_,s1_,i64_w,i32_w]
                    rfl
                   refine pure_ (i:=26) (N:=some 74) (v:=?_) (a':=?_) #[true,true,true,true,true,true,true,true,true,true,true,true,true,true,true,true,true,true,true,true,true,true,true,true,true,true,true] rfl rfl (any_of HT_.out (by kernel_rfl)) (fun _ _ _ h => h) (Or.inl ⟨by rfl, ?_⟩) ?_ ?_
                   rotate_left
                   ·intro w'
                    go_simp
                    with_reducible rfl
                   rotate_left
                   ·simp only [Act.put,sA_,s0_,s1_,i64_w,i32_w]
                    rfl
                   refine done_ (done_of HT_.out (by kernel_rfl)) ?_
                   try go_wp2
                   go_roundg k2
                   case measure => have:=HK1.out;have:=HK2.out;omega
                   case rel => exact ⟨(x45_2),(wrap64 (x45_2 + 1)),(by first | rfl | (simp;done) | (simp [*];done)),(by first | rfl | (simp;done) | (simp [*];done)),H',⟨by have:=HK1.out;have:=HK2.out;omega⟩,⟨by (try simp only [hl154000_1]);(with_reducible repeat (first | apply Kd.R_alloc | apply Kd.R_drewN | apply Kd.R_drew));exact HO_9.out⟩,⟨by (try simp only [hl154000_1]);(with_reducible repeat (first | apply Kd.R_alloc | apply Kd.R_drewN | apply Kd.R_drew));exact HO_36.out⟩,⟨by (try simp only [hl154000_1]);(with_reducible repeat (first | apply Kd.R_alloc | apply Kd.R_drewN | apply Kd.R_drew));exact HO_154000.out⟩,⟨by (try simp only [hl154000_1]);(with_reducible repeat (first | apply Kd.S_alloc | apply Kd.S_drewN | apply Kd.S_drew));exact HO_154001.out⟩,⟨by (try simp only [hl154000_1]);(with_reducible repeat (first | refine blk_drewN ?_ _ | refine blk_drew ?_ | refine blk_alloc ?_ _));exact BK141.out⟩,⟨by (try simp only [hl154000_1]);(with_reducible repeat (first | refine blk_drewN ?_ _ | refine blk_drew ?_ | refine blk_alloc ?_ _));exact BK142.out⟩,⟨by (try simp only [hl154000_1]);(with_reducible repeat (first | refine blk_drewN ?_ _ | refine blk_drew ?_ | refine blk_alloc ?_ _));exact BK153.out⟩,⟨by repeat (first | (with_reducible first | exact HB.out | apply below_alloc | apply pw_below_drewN | apply below_drew1 | refine below_set ?_ GE141.out | refine below_set ?_ GE142.out | refine below_set ?_ GE153.out) | exact HB.out)⟩⟩
                  ·rw [if_neg c56] at H;have c56b0 : decide (t170 < t171) = false:=decide_eq_false c56;clear c56;have H':=am_ H;clear H
                   try go_wp2
                   have n0_:=am_ (Kd.R_drew HO_9.out);have n1_:=am_ (Kd.R_drew HO_36.out);have n2_:=am_ (Kd.R_drew HO_154000.out);have n3_:=am_ (Kd.S_drew HO_154001.out);have n4_:=am_ (blk_drew BK141.out);have n5_:=am_ (blk_drew BK142.out);have n6_:=am_ (blk_drew BK153.out);have n7_:=am_ (below_drew1 HB.out);clear HO_9;clear HO_36;clear HO_154000;clear HO_154001;clear BK141;clear BK142;clear BK153;clear HB;have HO_9:=n0_;have HO_36:=n1_;have HO_154000:=n2_;have HO_154001:=n3_;have BK141:=n4_;have BK142:=n5_;have BK153:=n6_;have HB:=n7_;clear n0_ n1_ n2_ n3_ n4_ n5_ n6_ n7_;have p168 : 0 ≤ (x45_2 : Int):=of_decide_eq_true (by first | (with_reducible assumption) | assumption);have q168 : x45_2 < (x154001_1.length : Int):=of_decide_eq_true (by first | (with_reducible assumption) | assumption);obtain ⟨ad168,A168_0,c168_0,e168,hx168_0,hl168_0,hi168_0⟩ := at_L1 (Kd.S_reads' HO_154001.out).2.2 x45_2 p168 q168;cases e168;obtain ⟨ce168,hce168,hMe168,hcc168⟩ := Kd.S_get HO_154001.out [] x45_2 p168 (by first | exact q168 | exact of_decide_eq_true (by first | (with_reducible assumption) | assumption) | (have e_:=(Kd.S_reads' HO_154001.out).1;omega));obtain ⟨ve168_0,rfl,ge168_0⟩ := hMe168;have hv168_0:=hcc168 0 _ rfl;rw [Nat.add_zero,show ((Kd.slice 3 (Kd.int .i64))).sz = 1 from rfl,Nat.mul_one] at hv168_0;replace hv168_0:=Option.some.inj (hv168_0.symm.trans hx168_0);rw [hv168_0] at ge168_0;have HL168_0:=am_ (show Kd.R (Kd.int .i64) 3 _ _ _ _ (rd_L1 x154001_1 x45_2) from ge168_0);clear hv168_0 ge168_0;clear hcc168 hce168;have HR168_0:=am_ hi168_0;have HC168_0:=am_ hl168_0;clear hi168_0 hl168_0;replace p168:=eq_true p168;replace q168:=eq_true q168;have p169 : 0 ≤ (x45_2 : Int):=of_decide_eq_true (by first | (with_reducible assumption) | assumption);have q169 : x45_2 < (y158.length : Int):=of_decide_eq_true (by first | (with_reducible assumption) | assumption);obtain ⟨ad169,e169,hx169_0⟩ := Kd.at_int (Kd.R_reads' HO_154000.out).2.2 x45_2 p169 q169;obtain rfl : (⟨go1_,0,none⟩ : Addr) = ad169:=(by injection e169)
                   (first | simp only [add_plain] at hx169_0 | simp only [add_at] at hx169_0 | simp only [Addr.add,Nat.zero_add] at hx169_0 | skip)
                   replace p169:=eq_true p169;replace q169:=eq_true q169
                   refine start_ (n:=27) (S:=fun w' => w'.cell? ⟨gb153,0,none⟩ = some (.slice (some ⟨go1_,0,none⟩) y158.length co23) ∧ w'.cell? ⟨gb153,1,none⟩ = some (.slice (some ad168) x154001_1.length co46) ∧ w'.cell? (ad168.add (x45_2).toNat) = some (.slice A168_0 (rd_L1 x154001_1 x45_2).length c168_0) ∧ w'.cell? ⟨go1_,(x45_2).toNat,none⟩ = some (.int .i64 (rd y158 x45_2))) (ds := []) #[false,false,false,false,false,false,false,false,false,false,false,false,false,false,false,false,false,false,false,false,false,false,false,false,false,false,false] (by kernel_rfl) rfl rfl ⟨(blk_cell BK153.out 0).trans rfl,(blk_cell BK153.out 1).trans rfl,hx168_0,hx169_0⟩ (fun hHeld => ?_);refine with_tabW impl_CloseSlot.tab14 impl_CloseSlot.bits14 (fun HT_ HW_ => ?_)
                   generalize wr.drew = w60 at HO_9 HO_36 HO_154000 HO_154001 BK141 BK142 BK153 HB HL168_0 HR168_0 hx168_0 hx169_0 hHeld ⊢;refine pure_ (i:=0) (N:=some 48) (v:=?_) (a':=?_) #[true,false,false,false,false,false,false,false,false,false,false,false,false,false,false,false,false,false,false,false,false,false,false,false,false,false,false] rfl rfl (any_of HT_.out (by kernel_rfl)) (fun _ _ _ h => h) (Or.inl ⟨by rfl, ?_⟩) ?_ ?_
                   rotate_left
                   ·intro w'
                    go_simp
                    with_reducible rfl
                   rotate_left
                   ·simp only [Act.put,sA_,s0_,s1_,i64_w,i32_w]
                    rfl
                   refine pure_ (i:=2) (N:=some 50) (v:=?_) (a':=?_) #[true,false,true,false,false,false,false,false,false,false,false,false,false,false,false,false,false,false,false,false,false,false,false,false,false,false,false] rfl rfl (any_of HT_.out (by kernel_rfl)) (fun _ _ _ h => h) (Or.inl ⟨by rfl, ?_⟩) ?_ ?_
                   rotate_left
                   ·intro w'
                    go_simp
                    with_reducible rfl
                   rotate_left
                   ·simp only [Act.put,sA_,s0_,s1_,i64_w,i32_w]
                    rfl
                   refine pure_ (i:=6) (N:=some 54) (v:=?_) (a':=?_) #[true,false,true,false,false,false,true,false,false,false,false,false,false,false,false,false,false,false,false,false,false,false,false,false,false,false,false] rfl rfl (any_of HT_.out (by kernel_rfl)) (fun _ _ _ h => h) (Or.inl ⟨by rfl, ?_⟩) ?_ ?_
                   rotate_left
                   ·intro w'
                    go_simp
                    with_reducible rfl
                   rotate_left
                   ·simp only [Act.put,sA_,s0_,s1_,i64_w,i32_w]
                    rfl
                   refine pure_ (i:=8) (N:=some 56) (v:=?_) (a':=?_) #[true,false,true,false,false,false,true,false,true,false,false,false,false,false,false,false,false,false,false,false,false,false,false,false,false,false,false] rfl rfl (any_of HT_.out (by kernel_rfl)) (fun _ _ _ h => h) (Or.inl ⟨by rfl, ?_⟩) ?_ ?_
                   rotate_left
                   ·intro w'
                    go_simp
                    with_reducible rfl
                   rotate_left
                   ·simp only [Act.put,sA_,s0_,s1_,i64_w,i32_w]
                    rfl
                   refine take_ (i:=1) (N:=some 49) (v:=?_) (a':=?_) #[true,true,true,false,false,false,true,false,true,false,false,false,false,false,false,false,false,false,false,false,false,false,false,false,false,false,false] rfl rfl (take_ofW HT_.out HW_.out (by kernel_rfl)) (fun _ _ _ h => h) (Or.inl ⟨by rfl, ?_⟩) hHeld ?_ ?_
                   rotate_left
                   ·rintro w' ⟨s0,s1,s2,s3⟩
                    go_simp
                    with_reducible rfl
                   rotate_left
                   ·simp only [Act.put,sA_,s0_,s1_,i64_w,i32_w]
                    rfl
                   refine pure_ (i:=3) (N:=some 51) (v:=?_) (a':=?_) #[true,true,true,true,false,false,true,false,true,false,false,false,false,false,false,false,false,false,false,false,false,false,false,false,false,false,false] rfl rfl (any_of HT_.out (by kernel_rfl)) (fun _ _ _ h => h) (Or.inl ⟨by rfl, ?_⟩) ?_ ?_
                   rotate_left
                   ·intro w'
                    go_simp
                    with_reducible rfl
                   rotate_left
                   ·simp only [Act.put,sA_,s0_,s1_,i64_w,i32_w]
                    rfl
                   refine take_ (i:=4) (N:=some 52) (v:=?_) (a':=?_) #[true,true,true,true,true,false,true,false,true,false,false,false,false,false,false,false,false,false,false,false,false,false,false,false,false,false,false] rfl rfl (take_ofW HT_.out HW_.out (by kernel_rfl)) (fun _ _ _ h => h) (Or.inl ⟨by rfl, ?_⟩) hHeld ?_ ?_
                   rotate_left
                   ·rintro w' ⟨s0,s1,s2,s3⟩
                    go_simp
                    with_reducible rfl
                   rotate_left
                   ·simp only [Act.put,sA_,s0_,s1_,i64_w,i32_w]
                    rfl
                   refine pure_ (i:=5) (N:=some 53) (v:=?_) (a':=?_) #[true,true,true,true,true,true,true,false,true,false,false,false,false,false,false,false,false,false,false,false,false,false,false,false,false,false,false] rfl rfl (any_of HT_.out (by kernel_rfl)) (fun _ _ _ h => h) (Or.inl ⟨by rfl, ?_⟩) ?_ ?_
                   rotate_left
                   ·intro w'
                    go_simp
                    with_reducible rfl
                   rotate_left
                   ·simp only [Act.put,sA_,s0_,s1_,i64_w,i32_w]
                    rfl
                   refine take_ (i:=7) (N:=some 55) (v:=?_) (a':=?_) #[true,true,true,true,true,true,true,true,true,false,false,false,false,false,false,false,false,false,false,false,false,false,false,false,false,false,false] rfl rfl (take_ofW HT_.out HW_.out (by kernel_rfl)) (fun _ _ _ h => h) (Or.inl ⟨by rfl, ?_⟩) hHeld ?_ ?_
                   rotate_left
                   ·rintro w' ⟨s0,s1,s2,s3⟩
                    go_simp
                    with_reducible rfl
                   rotate_left
                   ·simp only [Act.put,sA_,s0_,s1_,i64_w,i32_w]
                    rfl
                   refine pure_ (i:=9) (N:=some 57) (v:=?_) (a':=?_) #[true,true,true,true,true,true,true,true,true,true,false,false,false,false,false,false,false,false,false,false,false,false,false,false,false,false,false] rfl rfl (any_of HT_.out (by kernel_rfl)) (fun _ _ _ h => h) (Or.inl ⟨by rfl, ?_⟩) ?_ ?_
                   rotate_left
                   ·intro w'
                    go_simp
                    with_reducible rfl
                   rotate_left
                   ·simp only [Act.put,sA_,s0_,s1_,i64_w,i32_w]
                    rfl
                   refine take_ (i:=10) (N:=some 58) (v:=?_) (a':=?_) #[true,true,true,true,true,true,true,true,true,true,true,false,false,false,false,false,false,false,false,false,false,false,false,false,false,false,false] rfl rfl (take_ofW HT_.out HW_.out (by kernel_rfl)) (fun _ _ _ h => h) (Or.inl ⟨by rfl, ?_⟩) hHeld ?_ ?_
                   rotate_left
                   ·rintro w' ⟨s0,s1,s2,s3⟩
                    go_simp
                    with_reducible rfl
                   rotate_left
                   ·simp only [Act.put,sA_,s0_,s1_,i64_w,i32_w]
                    rfl
                   refine pure_ (i:=11) (N:=some 59) (v:=?_) (a':=?_) #[true,true,true,true,true,true,true,true,true,true,true,true,false,false,false,false,false,false,false,false,false,false,false,false,false,false,false] rfl rfl (any_of HT_.out (by kernel_rfl)) (fun _ _ _ h => h) (Or.inl ⟨by rfl, ?_⟩) ?_ ?_
                   rotate_left
                   ·intro w'
                    go_simp
                    with_reducible rfl
                   rotate_left
                   ·simp only [Act.put,sA_,s0_,s1_,i64_w,i32_w]
                    rfl
                   refine pure_ (i:=12) (N:=some 60) (v:=?_) (a':=?_) #[true,true,true,true,true,true,true,true,true,true,true,true,true,false,false,false,false,false,false,false,false,false,false,false,false,false,false] rfl rfl (any_of HT_.out (by kernel_rfl)) (fun _ _ _ h => h) (Or.inl ⟨by rfl, ?_⟩) ?_ ?_
                   rotate_left
                   ·intro w'
                    go_simp
                    with_reducible rfl
                   rotate_left
                   ·simp only [Act.put,sA_,s0_,s1_,i64_w,i32_w]
                    rfl
                   refine pure_ (i:=13) (N:=some 61) (v:=?_) (a':=?_) #[true,true,true,true,true,true,true,true,true,true,true,true,true,true,false,false,false,false,false,false,false,false,false,false,false,false,false] rfl rfl (any_of HT_.out (by kernel_rfl)) (fun _ _ _ h => h) (Or.inl ⟨by rfl, ?_⟩) ?_ ?_
                   rotate_left
                   ·intro w'
                    go_simp
                    with_reducible rfl
                   rotate_left
                   ·simp only [Act.put,sA_,s0_,s1_,i64_w,i32_w]
                    rfl
                   refine pure_ (i:=14) (N:=some 62) (v:=?_) (a':=?_) #[true,true,true,true,true,true,true,true,true,true,true,true,true,true,true,false,false,false,false,false,false,false,false,false,false,false,false] rfl rfl (any_of HT_.out (by kernel_rfl)) (fun _ _ _ h => h) (Or.inl ⟨by rfl, ?_⟩) ?_ ?_
                   rotate_left
                   ·intro w'
                    go_simp
                    with_reducible rfl
                   rotate_left
                   ·simp only [Act.put,sA_,s0_,s1_,i64_w,i32_w]
                    rfl
                   refine pure_ (i:=15) (N:=some 63) (v:=?_) (a':=?_) #[true,true,true,true,true,true,true,true,true,true,true,true,true,true,true,true,false,false,false,false,false,false,false,false,false,false,false] rfl rfl (any_of HT_.out (by kernel_rfl)) (fun _ _ _ h => h) (Or.inl ⟨by rfl, ?_⟩) ?_ ?_
                   rotate_left
                   ·intro w'
                    go_simp
                    with_reducible rfl
                   rotate_left
                   ·simp only [Act.put,sA_,s0_,s1_,i64_w,i32_w]
                    rfl
                   refine pure_ (i:=16) (N:=some 64) (v:=?_) (a':=?_) #[true,true,true,true,true,true,true,true,true,true,true,true,true,true,true,true,true,false,false,false,false,false,false,false,false,false,false] rfl rfl (any_of HT_.out (by kernel_rfl)) (fun _ _ _ h => h) (Or.inl ⟨by rfl, ?_⟩) ?_ ?_
                   rotate_left
                   ·intro w'
                    go_simp
                    with_reducible rfl
                   rotate_left
                   ·simp only [Act.put,sA_,s0_,s1_,i64_w,i32_w]
                    rfl
                   refine pure_ (i:=17) (N:=some 65) (v:=?_) (a':=?_) #[true,true,true,true,true,true,true,true,true,true,true,true,true,true,true,true,true,true,false,false,false,false,false,false,false,false,false] rfl rfl (any_of HT_.out (by kernel_rfl)) (fun _ _ _ h => h) (Or.inl ⟨by rfl, ?_⟩) ?_ ?_
                   rotate_left
                   ·intro w'
                    go_simp
                    with_reducible rfl
                   rotate_left
                   ·simp only [Act.put,sA_,s0_,s1_,i64_w,i32_w]
                    rfl
                   refine pure_ (i:=18) (N:=some 66) (v:=?_) (a':=?_) #[true,true,true,true,true,true,true,true,true,true,true,true,true,true,true,true,true,true,true,false,false,false,false,false,false,false,false] rfl rfl (any_of HT_.out (by kernel_rfl)) (fun _ _ _ h => h) (Or.inl ⟨by rfl, ?_⟩) ?_ ?_
                   rotate_left
                   ·intro w'
                    go_simp
                    with_reducible rfl
                   rotate_left
                   ·simp only [Act.put,sA_,s0_,s1_,i64_w,i32_w]
                    rfl
                   refine pure_ (i:=20) (N:=some 68) (v:=?_) (a':=?_) #[true,true,true,true,true,true,true,true,true,true,true,true,true,true,true,true,true,true,true,false,true,false,false,false,false,false,false] rfl rfl (any_of HT_.out (by kernel_rfl)) (fun _ _ _ h => h) (Or.inl ⟨by rfl, ?_⟩) ?_ ?_
                   rotate_left
                   ·intro w'
                    go_simp
                    with_reducible rfl
                   rotate_left
                   ·simp only [Act.put,sA_,s0_,s1_,i64_w,i32_w]
                    rfl
                   refine pure_ (i:=21) (N:=some 69) (v:=?_) (a':=?_) #[true,true,true,true,true,true,true,true,true,true,true,true,true,true,true,true,true,true,true,false,true,true,false,false,false,false,false] rfl rfl (any_of HT_.out (by kernel_rfl)) (fun _ _ _ h => h) (Or.inl ⟨by rfl, ?_⟩) ?_ ?_
                   rotate_left
                   ·intro w'
                    go_simp
                    with_reducible rfl
                   rotate_left
                   ·simp only [Act.put,sA_,s0_,s1_,i64_w,i32_w]
                    rfl
                   refine pure_ (i:=22) (N:=some 70) (v:=?_) (a':=?_) #[true,true,true,true,true,true,true,true,true,true,true,true,true,true,true,true,true,true,true,false,true,true,true,false,false,false,false] rfl rfl (any_of HT_.out (by kernel_rfl)) (fun _ _ _ h => h) (Or.inl ⟨by rfl, ?_⟩) ?_ ?_
                   rotate_left
                   ·intro w'
                    go_simp
                    with_reducible rfl
                   rotate_left
                   ·simp only [Act.put,sA_,s0_,s1_,i64_w,i32_w]
                    rfl
                   refine one_ (i:=19) (N:=some 67) #[true,true,true,true,true,true,true,true,true,true,true,true,true,true,true,true,true,true,true,true,true,true,true,false,false,false,false] rfl rfl (one_of HT_.out (by kernel_rfl)) (by decide) (fun K hK => ?_);refine goes_ Try.func56 (by kernel_rfl) rfl #[.int .i64 (wrap64 (x45_2 - a1))] (by rfl) rfl rfl (by (try simp only [List.map_toArray,List.map_cons,List.map_nil]);first | done | rfl | (simp only [List.length_drop,List.length_take];rfl)) ?_
                   with_reducible refine (impl_size.calls (wrap64 (x45_2 - a1)) t170 _ A54.out).mono ?_
                   rintro e w61 ⟨rfl,hb⟩;have HS2_:=(hb.cell (World.block_lt_of_cell? _ _ (hHeld.2.2.1))).trans (hHeld.2.2.1);have HS3_:=(hb.cell (World.block_lt_of_cell? _ _ (hHeld.2.2.2))).trans (hHeld.2.2.2);refine ⟨_,rfl, ?_⟩;have n0_:=am_ (Kd.R_below (by (with_reducible repeat (first | apply Kd.R_alloc | apply Kd.R_drewN | apply Kd.R_drew));exact HO_9.out) hb);have n1_:=am_ (Kd.R_below (by (with_reducible repeat (first | apply Kd.R_alloc | apply Kd.R_drewN | apply Kd.R_drew));exact HO_36.out) hb);have n2_:=am_ (Kd.R_below (by (with_reducible repeat (first | apply Kd.R_alloc | apply Kd.R_drewN | apply Kd.R_drew));exact HO_154000.out) hb);have n3_:=am_ (Kd.S_below (by (with_reducible repeat (first | apply Kd.S_alloc | apply Kd.S_drewN | apply Kd.S_drew));exact HO_154001.out) hb);have n4_:=am_ (Kd.R_below (by (with_reducible repeat (first | apply Kd.R_alloc | apply Kd.R_drewN | apply Kd.R_drew));exact HL168_0.out) hb);have n5_:=am_ (blk_below (g:=gb141) (o := .cells #[.slice A0_0 l0_0.length c0_0, .slice A0_1 l0_1.length c0_1] 27 (0,0)) (by (with_reducible repeat (first | refine blk_drewN ?_ _ | refine blk_drew ?_ | refine blk_alloc ?_ _));exact BK141.out) hb);have n6_:=am_ (blk_below (g:=gb142) (o := .cells #[.slice none 0 0, .slice none 0 0] 27 (0,0)) (by (with_reducible repeat (first | refine blk_drewN ?_ _ | refine blk_drew ?_ | refine blk_alloc ?_ _));exact BK142.out) hb);have n7_:=am_ (blk_below (g:=gb153) (o := .cells #[.slice (some ⟨go1_,0,none⟩) y158.length co23, .slice (some ad168) x154001_1.length co46] 27 (0,0)) (by (with_reducible repeat (first | refine blk_drewN ?_ _ | refine blk_drew ?_ | refine blk_alloc ?_ _));exact BK153.out) hb);have n8_:=am_ (Kd.C_below (by repeat (first | (with_reducible exact HR168_0.out) | (with_reducible refine Kd.C_alloc ?_ _) | (with_reducible refine Kd.C_drewN ?_ _) | (with_reducible refine Kd.C_drew ?_) | exact HR168_0.out)) hb);have n9_:=am_ (below_step (by repeat (first | (with_reducible first | exact HB.out | apply below_alloc | apply pw_below_drewN | apply below_drew1 | refine below_set ?_ GE141.out | refine below_set ?_ GE142.out | refine below_set ?_ GE153.out) | exact HB.out)) hb);clear HO_9;clear HO_36;clear HO_154000;clear HO_154001;clear HL168_0;clear BK141;clear BK142;clear BK153;clear HR168_0;clear HB;have HO_9:=n0_;have HO_36:=n1_;have HO_154000:=n2_;have HO_154001:=n3_;have HL168_0:=n4_;have BK141:=n5_;have BK142:=n6_;have BK153:=n7_;have HR168_0:=n8_;have HB:=n9_;clear n0_ n1_ n2_ n3_ n4_ n5_ n6_ n7_ n8_ n9_;(try clear hb);(try clear hb2);(try clear hk);(try clear hi);refine hK.out _ _ ⟨(blk_cell BK153.out 0).trans rfl,(blk_cell BK153.out 1).trans rfl,HS2_,HS3_⟩ (fun hHeld => ?_);clear hK K;refine norm_ (a':=?_) ?_ ?_
                   rotate_left
                   ·show Act.put _ (some 67) _ = _
                    simp only [Act.put,sA_,s0_,s1_,i64_w,i32_w]
                    rfl
                   refine one_ (i:=23) (N:=some 71) #[true,true,true,true,true,true,true,true,true,true,true,true,true,true,true,true,true,true,true,true,true,true,true,true,false,false,false] rfl rfl (one_of HT_.out (by kernel_rfl)) (by decide) (fun K hK => ?_);refine goes_ Try.func56 (by kernel_rfl) rfl #[.int .i64 (wrap64 (x12_2 - a1))] (by rfl) rfl rfl (by (try simp only [List.map_toArray,List.map_cons,List.map_nil]);first | done | rfl | (simp only [List.length_drop,List.length_take];rfl)) ?_
                   with_reducible refine (impl_size.calls (wrap64 (x12_2 - a1)) t171 _ A55.out).mono ?_
                   rintro e w62 ⟨rfl,hb⟩;have HS2_:=(hb.cell (World.block_lt_of_cell? _ _ (hHeld.2.2.1))).trans (hHeld.2.2.1);have HS3_:=(hb.cell (World.block_lt_of_cell? _ _ (hHeld.2.2.2))).trans (hHeld.2.2.2);refine ⟨_,rfl, ?_⟩;have n0_:=am_ (Kd.R_below (by (with_reducible repeat (first | apply Kd.R_alloc | apply Kd.R_drewN | apply Kd.R_drew));exact HO_9.out) hb);have n1_:=am_ (Kd.R_below (by (with_reducible repeat (first | apply Kd.R_alloc | apply Kd.R_drewN | apply Kd.R_drew));exact HO_36.out) hb);have n2_:=am_ (Kd.R_below (by (with_reducible repeat (first | apply Kd.R_alloc | apply Kd.R_drewN | apply Kd.R_drew));exact HO_154000.out) hb);have n3_:=am_ (Kd.S_below (by (with_reducible repeat (first | apply Kd.S_alloc | apply Kd.S_drewN | apply Kd.S_drew));exact HO_154001.out) hb);have n4_:=am_ (Kd.R_below (by (with_reducible repeat (first | apply Kd.R_alloc | apply Kd.R_drewN | apply Kd.R_drew));exact HL168_0.out) hb);have n5_:=am_ (blk_below (g:=gb141) (o := .cells #[.slice A0_0 l0_0.length c0_0, .slice A0_1 l0_1.length c0_1] 27 (0,0)) (by (with_reducible repeat (first | refine blk_drewN ?_ _ | refine blk_drew ?_ | refine blk_alloc ?_ _));exact BK141.out) hb);have n6_:=am_ (blk_below (g:=gb142) (o := .cells #[.slice none 0 0, .slice none 0 0] 27 (0,0)) (by (with_reducible repeat (first | refine blk_drewN ?_ _ | refine blk_drew ?_ | refine blk_alloc ?_ _));exact BK142.out) hb);have n7_:=am_ (blk_below (g:=gb153) (o := .cells #[.slice (some ⟨go1_,0,none⟩) y158.length co23, .slice (some ad168) x154001_1.length co46] 27 (0,0)) (by (with_reducible repeat (first | refine blk_drewN ?_ _ | refine blk_drew ?_ | refine blk_alloc ?_ _));exact BK153.out) hb);have n8_:=am_ (Kd.C_below (by repeat (first | (with_reducible exact HR168_0.out) | (with_reducible refine Kd.C_alloc ?_ _) | (with_reducible refine Kd.C_drewN ?_ _) | (with_reducible refine Kd.C_drew ?_) | exact HR168_0.out)) hb);have n9_:=am_ (below_step (by repeat (first | (with_reducible first | exact HB.out | apply below_alloc | apply pw_below_drewN | apply below_drew1 | refine below_set ?_ GE141.out | refine below_set ?_ GE142.out | refine below_set ?_ GE153.out) | exact HB.out)) hb);clear HO_9;clear HO_36;clear HO_154000;clear HO_154001;clear HL168_0;clear BK141;clear BK142;clear BK153;clear HR168_0;clear HB;have HO_9:=n0_;have HO_36:=n1_;have HO_154000:=n2_;have HO_154001:=n3_;have HL168_0:=n4_;have BK141:=n5_;have BK142:=n6_;have BK153:=n7_;have HR168_0:=n8_;have HB:=n9_;clear n0_ n1_ n2_ n3_ n4_ n5_ n6_ n7_ n8_ n9_;(try clear hb);(try clear hb2);(try clear hk);(try clear hi);refine hK.out _ _ ⟨(blk_cell BK153.out 0).trans rfl,(blk_cell BK153.out 1).trans rfl,HS2_,HS3_⟩ (fun hHeld => ?_);clear hK K;refine norm_ (a':=?_) ?_ ?_
                   rotate_left
                   ·show Act.put _ (some 71) _ = _
                    simp only [Act.put,sA_,s0_,s1_,i64_w,i32_w]
                    rfl
                   refine pure_ (i:=24) (N:=some 72) (v:=?_) (a':=?_) #[true,true,true,true,true,true,true,true,true,true,true,true,true,true,true,true,true,true,true,true,true,true,true,true,true,false,false] rfl rfl (any_of HT_.out (by kernel_rfl)) (fun _ _ _ h => h) (Or.inl ⟨by rfl, ?_⟩) ?_ ?_
                   rotate_left
                   ·intro w'
                    go_simp
                    with_reducible rfl
                   rotate_left
                   ·simp only [Act.put,sA_,s0_,s1_,i64_w,i32_w]
                    rfl
                   refine pure_ (i:=25) (N:=some 73) (v:=?_) (a':=?_) #[true,true,true,true,true,true,true,true,true,true,true,true,true,true,true,true,true,true,true,true,true,true,true,true,true,true,false] rfl rfl (any_of HT_.out (by kernel_rfl)) (fun _ _ _ h => h) (Or.inl ⟨by rfl, ?_⟩) ?_ ?_
                   rotate_left
                   ·intro w'
                    go_simp
                    with_reducible rfl
                   rotate_left
                   ·simp only [Act.put,sA_,s0_,s1_,i64_w,i32_w]
                    rfl
                   refine pure_ (i:=26) (N:=some 74) (v:=?_) (a':=?_) #[true,true,true,true,true,true,true,true,true,true,true,true,true,true,true,true,true,true,true,true,true,true,true,true,true,true,true] rfl rfl (any_of HT_.out (by kernel_rfl)) (fun _ _ _ h => h) (Or.inl ⟨by rfl, ?_⟩) ?_ ?_
                   rotate_left
                   ·intro w'
                    go_simp
                    with_reducible rfl
                   rotate_left
                   ·simp only [Act.put,sA_,s0_,s1_,i64_w,i32_w]
                    rfl
                   refine done_ (done_of HT_.out (by kernel_rfl)) ?_
                   try go_wp2
                   go_roundg k2
                   case measure => have:=HK1.out;have:=HK2.out;omega
                   case rel => exact ⟨(x12_2),(wrap64 (x45_2 + 1)),(by first | rfl | (simp;done) | (simp [*];done)),(by first | rfl | (simp;done) | (simp [*];done)),H',⟨by have:=HK1.out;have:=HK2.out;omega⟩,⟨by (try simp only [hl154000_1]);(with_reducible repeat (first | apply Kd.R_alloc | apply Kd.R_drewN | apply Kd.R_drew));exact HO_9.out⟩,⟨by (try simp only [hl154000_1]);(with_reducible repeat (first | apply Kd.R_alloc | apply Kd.R_drewN | apply Kd.R_drew));exact HO_36.out⟩,⟨by (try simp only [hl154000_1]);(with_reducible repeat (first | apply Kd.R_alloc | apply Kd.R_drewN | apply Kd.R_drew));exact HO_154000.out⟩,⟨by (try simp only [hl154000_1]);(with_reducible repeat (first | apply Kd.S_alloc | apply Kd.S_drewN | apply Kd.S_drew));exact HO_154001.out⟩,⟨by (try simp only [hl154000_1]);(with_reducible repeat (first | refine blk_drewN ?_ _ | refine blk_drew ?_ | refine blk_alloc ?_ _));exact BK141.out⟩,⟨by (try simp only [hl154000_1]);(with_reducible repeat (first | refine blk_drewN ?_ _ | refine blk_drew ?_ | refine blk_alloc ?_ _));exact BK142.out⟩,⟨by (try simp only [hl154000_1]);(with_reducible repeat (first | refine blk_drewN ?_ _ | refine blk_drew ?_ | refine blk_alloc ?_ _));exact BK153.out⟩,⟨by repeat (first | (with_reducible first | exact HB.out | apply below_alloc | apply pw_below_drewN | apply below_drew1 | refine below_set ?_ GE141.out | refine below_set ?_ GE142.out | refine below_set ?_ GE153.out) | exact HB.out)⟩⟩
                ·rw [if_neg c51] at H;have c51b0 : decide (((rd_L1 x154001_1 x45_2).length : Int) < (rd y158 x45_2)) = false:=decide_eq_false c51;clear c51;have H':=am_ H;clear H
                 try go_wp2
                 have n0_:=am_ (Kd.R_drew HO_9.out);have n1_:=am_ (Kd.R_drew HO_36.out);have n2_:=am_ (Kd.R_drew HO_154000.out);have n3_:=am_ (Kd.S_drew HO_154001.out);have n4_:=am_ (blk_drew BK141.out);have n5_:=am_ (blk_drew BK142.out);have n6_:=am_ (blk_drew BK153.out);have n7_:=am_ (below_drew1 HB.out);clear HO_9;clear HO_36;clear HO_154000;clear HO_154001;clear BK141;clear BK142;clear BK153;clear HB;have HO_9:=n0_;have HO_36:=n1_;have HO_154000:=n2_;have HO_154001:=n3_;have BK141:=n4_;have BK142:=n5_;have BK153:=n6_;have HB:=n7_;clear n0_ n1_ n2_ n3_ n4_ n5_ n6_ n7_;have p168 : 0 ≤ (x45_2 : Int):=of_decide_eq_true (by first | (with_reducible assumption) | assumption);have q168 : x45_2 < (x154001_1.length : Int):=of_decide_eq_true (by first | (with_reducible assumption) | assumption);obtain ⟨ad168,A168_0,c168_0,e168,hx168_0,hl168_0,hi168_0⟩ := at_L1 (Kd.S_reads' HO_154001.out).2.2 x45_2 p168 q168;cases e168;obtain ⟨ce168,hce168,hMe168,hcc168⟩ := Kd.S_get HO_154001.out [] x45_2 p168 (by first | exact q168 | exact of_decide_eq_true (by first | (with_reducible assumption) | assumption) | (have e_:=(Kd.S_reads' HO_154001.out).1;omega));obtain ⟨ve168_0,rfl,ge168_0⟩ := hMe168;have hv168_0:=hcc168 0 _ rfl;rw [Nat.add_zero,show ((Kd.slice 3 (Kd.int .i64))).sz = 1 from rfl,Nat.mul_one] at hv168_0;replace hv168_0:=Option.some.inj (hv168_0.symm.trans hx168_0);rw [hv168_0] at ge168_0;have HL168_0:=am_ (show Kd.R (Kd.int .i64) 3 _ _ _ _ (rd_L1 x154001_1 x45_2) from ge168_0);clear hv168_0 ge168_0;clear hcc168 hce168;have HR168_0:=am_ hi168_0;have HC168_0:=am_ hl168_0;clear hi168_0 hl168_0;replace p168:=eq_true p168;replace q168:=eq_true q168;have p169 : 0 ≤ (x45_2 : Int):=of_decide_eq_true (by first | (with_reducible assumption) | assumption);have q169 : x45_2 < (y158.length : Int):=of_decide_eq_true (by first | (with_reducible assumption) | assumption);obtain ⟨ad169,e169,hx169_0⟩ := Kd.at_int (Kd.R_reads' HO_154000.out).2.2 x45_2 p169 q169;obtain rfl : (⟨go1_,0,none⟩ : Addr) = ad169:=(by injection e169)
                 (first | simp only [add_plain] at hx169_0 | simp only [add_at] at hx169_0 | simp only [Addr.add,Nat.zero_add] at hx169_0 | skip)
                 replace p169:=eq_true p169;replace q169:=eq_true q169
                 refine start_ (n:=27) (S:=fun w' => w'.cell? ⟨gb153,0,none⟩ = some (.slice (some ⟨go1_,0,none⟩) y158.length co23) ∧ w'.cell? ⟨gb153,1,none⟩ = some (.slice (some ad168) x154001_1.length co46) ∧ w'.cell? (ad168.add (x45_2).toNat) = some (.slice A168_0 (rd_L1 x154001_1 x45_2).length c168_0) ∧ w'.cell? ⟨go1_,(x45_2).toNat,none⟩ = some (.int .i64 (rd y158 x45_2))) (ds := []) #[false,false,false,false,false,false,false,false,false,false,false,false,false,false,false,false,false,false,false,false,false,false,false,false,false,false,false] (by kernel_rfl) rfl rfl ⟨(blk_cell BK153.out 0).trans rfl,(blk_cell BK153.out 1).trans rfl,hx168_0,hx169_0⟩ (fun hHeld => ?_);refine with_tabW impl_CloseSlot.tab14 impl_CloseSlot.bits14 (fun HT_ HW_ => ?_)
                 generalize wr.drew = w63 at HO_9 HO_36 HO_154000 HO_154001 BK141 BK142 BK153 HB HL168_0 HR168_0 hx168_0 hx169_0 hHeld ⊢;refine pure_ (i:=0) (N:=some 48) (v:=?_) (a':=?_) #[true,false,false,false,false,false,false,false,false,false,false,false,false,false,false,false,false,false,false,false,false,false,false,false,false,false,false] rfl rfl (any_of HT_.out (by kernel_rfl)) (fun _ _ _ h => h) (Or.inl ⟨by rfl, ?_⟩) ?_ ?_
                 rotate_left
                 ·intro w'
                  go_simp
                  with_reducible rfl
                 rotate_left
                 ·simp only [Act.put,sA_,s0_,s1_,i64_w,i32_w]
                  rfl
                 refine pure_ (i:=2) (N:=some 50) (v:=?_) (a':=?_) #[true,false,true,false,false,false,false,false,false,false,false,false,false,false,false,false,false,false,false,false,false,false,false,false,false,false,false] rfl rfl (any_of HT_.out (by kernel_rfl)) (fun _ _ _ h => h) (Or.inl ⟨by rfl, ?_⟩) ?_ ?_
                 rotate_left
                 ·intro w'
                  go_simp
                  with_reducible rfl
                 rotate_left
                 ·simp only [Act.put,sA_,s0_,s1_,i64_w,i32_w]
                  rfl
                 refine pure_ (i:=6) (N:=some 54) (v:=?_) (a':=?_) #[true,false,true,false,false,false,true,false,false,false,false,false,false,false,false,false,false,false,false,false,false,false,false,false,false,false,false] rfl rfl (any_of HT_.out (by kernel_rfl)) (fun _ _ _ h => h) (Or.inl ⟨by rfl, ?_⟩) ?_ ?_
                 rotate_left
                 ·intro w'
                  go_simp
                  with_reducible rfl
                 rotate_left
                 ·simp only [Act.put,sA_,s0_,s1_,i64_w,i32_w]
                  rfl
                 refine pure_ (i:=8) (N:=some 56) (v:=?_) (a':=?_) #[true,false,true,false,false,false,true,false,true,false,false,false,false,false,false,false,false,false,false,false,false,false,false,false,false,false,false] rfl rfl (any_of HT_.out (by kernel_rfl)) (fun _ _ _ h => h) (Or.inl ⟨by rfl, ?_⟩) ?_ ?_
                 rotate_left
                 ·intro w'
                  go_simp
                  with_reducible rfl
                 rotate_left
                 ·simp only [Act.put,sA_,s0_,s1_,i64_w,i32_w]
                  rfl
                 refine take_ (i:=1) (N:=some 49) (v:=?_) (a':=?_) #[true,true,true,false,false,false,true,false,true,false,false,false,false,false,false,false,false,false,false,false,false,false,false,false,false,false,false] rfl rfl (take_ofW HT_.out HW_.out (by kernel_rfl)) (fun _ _ _ h => h) (Or.inl ⟨by rfl, ?_⟩) hHeld ?_ ?_
                 rotate_left
                 ·rintro w' ⟨s0,s1,s2,s3⟩
                  go_simp
                  with_reducible rfl
                 rotate_left
                 ·simp only [Act.put,sA_,s0_,s1_,i64_w,i32_w]
                  rfl
                 refine pure_ (i:=3) (N:=some 51) (v:=?_) (a':=?_) #[true,true,true,true,false,false,true,false,true,false,false,false,false,false,false,false,false,false,false,false,false,false,false,false,false,false,false] rfl rfl (any_of HT_.out (by kernel_rfl)) (fun _ _ _ h => h) (Or.inl ⟨by rfl, ?_⟩) ?_ ?_
                 rotate_left
                 ·intro w'
                  go_simp
                  with_reducible rfl
                 rotate_left
                 ·simp only [Act.put,sA_,s0_,s1_,i64_w,i32_w]
                  rfl
                 refine take_ (i:=4) (N:=some 52) (v:=?_) (a':=?_) #[true,true,true,true,true,false,true,false,true,false,false,false,false,false,false,false,false,false,false,false,false,false,false,false,false,false,false] rfl rfl (take_ofW HT_.out HW_.out (by kernel_rfl)) (fun _ _ _ h => h) (Or.inl ⟨by rfl, ?_⟩) hHeld ?_ ?_
                 rotate_left
                 ·rintro w' ⟨s0,s1,s2,s3⟩
                  go_simp
                  with_reducible rfl
                 rotate_left
                 ·simp only [Act.put,sA_,s0_,s1_,i64_w,i32_w]
                  rfl
                 refine pure_ (i:=5) (N:=some 53) (v:=?_) (a':=?_) #[true,true,true,true,true,true,true,false,true,false,false,false,false,false,false,false,false,false,false,false,false,false,false,false,false,false,false] rfl rfl (any_of HT_.out (by kernel_rfl)) (fun _ _ _ h => h) (Or.inl ⟨by rfl, ?_⟩) ?_ ?_
                 rotate_left
                 ·intro w'
                  go_simp
                  with_reducible rfl
                 rotate_left
                 ·simp only [Act.put,sA_,s0_,s1_,i64_w,i32_w]
                  rfl
                 refine take_ (i:=7) (N:=some 55) (v:=?_) (a':=?_) #[true,true,true,true,true,true,true,true,true,false,false,false,false,false,false,false,false,false,false,false,false,false,false,false,false,false,false] rfl rfl (take_ofW HT_.out HW_.out (by kernel_rfl)) (fun _ _ _ h => h) (Or.inl ⟨by rfl, ?_⟩) hHeld ?_ ?_
                 rotate_left
                 ·rintro w' ⟨s0,s1,s2,s3⟩
                  go_simp
                  with_reducible rfl
                 rotate_left
                 ·simp only [Act.put,sA_,s0_,s1_,i64_w,i32_w]
                  rfl
                 refine pure_ (i:=9) (N:=some 57) (v:=?_) (a':=?_) #[true,true,true,true,true,true,true,true,true,true,false,false,false,false,false,false,false,false,false,false,false,false,false,false,false,false,false] rfl rfl (any_of HT_.out (by kernel_rfl)) (fun _ _ _ h => h) (Or.inl ⟨by rfl, ?_⟩) ?_ ?_
                 rotate_left
                 ·intro w'
                  go_simp
                  with_reducible rfl
                 rotate_left
                 ·simp only [Act.put,sA_,s0_,s1_,i64_w,i32_w]
                  rfl
                 refine take_ (i:=10) (N:=some 58) (v:=?_) (a':=?_) #[true,true,true,true,true,true,true,true,true,true,true,false,false,false,false,false,false,false,false,false,false,false,false,false,false,false,false] rfl rfl (take_ofW HT_.out HW_.out (by kernel_rfl)) (fun _ _ _ h => h) (Or.inl ⟨by rfl, ?_⟩) hHeld ?_ ?_
                 rotate_left
                 ·rintro w' ⟨s0,s1,s2,s3⟩
                  go_simp
                  with_reducible rfl
                 rotate_left
                 ·simp only [Act.put,sA_,s0_,s1_,i64_w,i32_w]
                  rfl
                 refine pure_ (i:=11) (N:=some 59) (v:=?_) (a':=?_) #[true,true,true,true,true,true,true,true,true,true,true,true,false,false,false,false,false,false,false,false,false,false,false,false,false,false,false] rfl rfl (any_of HT_.out (by kernel_rfl)) (fun _ _ _ h => h) (Or.inl ⟨by rfl, ?_⟩) ?_ ?_
                 rotate_left
                 ·intro w'
                  go_simp
                  with_reducible rfl
                 rotate_left
                 ·simp only [Act.put,sA_,s0_,s1_,i64_w,i32_w]
                  rfl
                 refine pure_ (i:=12) (N:=some 60) (v:=?_) (a':=?_) #[true,true,true,true,true,true,true,true,true,true,true,true,true,false,false,false,false,false,false,false,false,false,false,false,false,false,false] rfl rfl (any_of HT_.out (by kernel_rfl)) (fun _ _ _ h => h) (Or.inl ⟨by rfl, ?_⟩) ?_ ?_
                 rotate_left
                 ·intro w'
                  go_simp
                  with_reducible rfl
                 rotate_left
                 ·simp only [Act.put,sA_,s0_,s1_,i64_w,i32_w]
                  rfl
                 refine pure_ (i:=13) (N:=some 61) (v:=undef) (a':=?_) #[true,true,true,true,true,true,true,true,true,true,true,true,true,true,false,false,false,false,false,false,false,false,false,false,false,false,false] rfl rfl (any_of HT_.out (by kernel_rfl)) (fun _ _ _ h => h) (Or.inr ⟨by rfl,rfl⟩) ?_ ?_
                 rotate_left
                 ·simp only [Act.put,sA_,s0_,s1_,i64_w,i32_w]
                  rfl
                 refine pure_ (i:=14) (N:=some 62) (v:=undef) (a':=?_) #[true,true,true,true,true,true,true,true,true,true,true,true,true,true,true,false,false,false,false,false,false,false,false,false,false,false,false] rfl rfl (any_of HT_.out (by kernel_rfl)) (fun _ _ _ h => h) (Or.inr ⟨by rfl,rfl⟩) ?_ ?_
                 rotate_left
                 ·simp only [Act.put,sA_,s0_,s1_,i64_w,i32_w]
                  rfl
                 refine pure_ (i:=15) (N:=some 63) (v:=undef) (a':=?_) #[true,true,true,true,true,true,true,true,true,true,true,true,true,true,true,true,false,false,false,false,false,false,false,false,false,false,false] rfl rfl (any_of HT_.out (by kernel_rfl)) (fun _ _ _ h => h) (Or.inr ⟨by rfl,rfl⟩) ?_ ?_
                 rotate_left
                 ·simp only [Act.put,sA_,s0_,s1_,i64_w,i32_w]
                  rfl
                 refine pure_ (i:=16) (N:=some 64) (v:=undef) (a':=?_) #[true,true,true,true,true,true,true,true,true,true,true,true,true,true,true,true,true,false,false,false,false,false,false,false,false,false,false] rfl rfl (any_of HT_.out (by kernel_rfl)) (fun _ _ _ h => h) (Or.inr ⟨by rfl,rfl⟩) ?_ ?_
                 rotate_left
                 ·simp only [Act.put,sA_,s0_,s1_,i64_w,i32_w]
                  rfl
                 refine pure_ (i:=17) (N:=some 65) (v:=undef) (a':=?_) #[true,true,true,true,true,true,true,true,true,true,true,true,true,true,true,true,true,true,false,false,false,false,false,false,false,false,false] rfl rfl (any_of HT_.out (by kernel_rfl)) (fun _ _ _ h => h) (Or.inr ⟨by rfl,rfl⟩) ?_ ?_
                 rotate_left
                 ·simp only [Act.put,sA_,s0_,s1_,i64_w,i32_w]
                  rfl
                 refine pure_ (i:=18) (N:=some 66) (v:=undef) (a':=?_) #[true,true,true,true,true,true,true,true,true,true,true,true,true,true,true,true,true,true,true,false,false,false,false,false,false,false,false] rfl rfl (any_of HT_.out (by kernel_rfl)) (fun _ _ _ h => h) (Or.inr ⟨by rfl,rfl⟩) ?_ ?_
                 rotate_left
                 ·simp only [Act.put,sA_,s0_,s1_,i64_w,i32_w]
                  rfl
                 refine pure_ (i:=19) (N:=some 67) (v:=undef) (a':=?_) #[true,true,true,true,true,true,true,true,true,true,true,true,true,true,true,true,true,true,true,true,false,false,false,false,false,false,false] rfl rfl (any_of HT_.out (by kernel_rfl)) (fun _ _ _ h => h) (Or.inr ⟨by rfl,rfl⟩) ?_ ?_
                 rotate_left
                 ·simp only [Act.put,sA_,s0_,s1_,i64_w,i32_w]
                  rfl
                 refine pure_ (i:=20) (N:=some 68) (v:=undef) (a':=?_) #[true,true,true,true,true,true,true,true,true,true,true,true,true,true,true,true,true,true,true,true,true,false,false,false,false,false,false] rfl rfl (any_of HT_.out (by kernel_rfl)) (fun _ _ _ h => h) (Or.inr ⟨by rfl,rfl⟩) ?_ ?_
                 rotate_left
                 ·simp only [Act.put,sA_,s0_,s1_,i64_w,i32_w]
                  rfl
                 refine pure_ (i:=21) (N:=some 69) (v:=undef) (a':=?_) #[true,true,true,true,true,true,true,true,true,true,true,true,true,true,true,true,true,true,true,true,true,true,false,false,false,false,false] rfl rfl (any_of HT_.out (by kernel_rfl)) (fun _ _ _ h => h) (Or.inr ⟨by rfl,rfl⟩) ?_ ?_
                 rotate_left
                 ·simp only [Act.put,sA_,s0_,s1_,i64_w,i32_w]
                  rfl
                 refine pure_ (i:=22) (N:=some 70) (v:=undef) (a':=?_) #[true,true,true,true,true,true,true,true,true,true,true,true,true,true,true,true,true,true,true,true,true,true,true,false,false,false,false] rfl rfl (any_of HT_.out (by kernel_rfl)) (fun _ _ _ h => h) (Or.inr ⟨by rfl,rfl⟩) ?_ ?_
                 rotate_left
                 ·simp only [Act.put,sA_,s0_,s1_,i64_w,i32_w]
                  rfl
                 refine pure_ (i:=23) (N:=some 71) (v:=undef) (a':=?_) #[true,true,true,true,true,true,true,true,true,true,true,true,true,true,true,true,true,true,true,true,true,true,true,true,false,false,false] rfl rfl (any_of HT_.out (by kernel_rfl)) (fun _ _ _ h => h) (Or.inr ⟨by rfl,rfl⟩) ?_ ?_
                 rotate_left
                 ·simp only [Act.put,sA_,s0_,s1_,i64_w,i32_w]
                  rfl
                 refine pure_ (i:=24) (N:=some 72) (v:=undef) (a':=?_) #[true,true,true,true,true,true,true,true,true,true,true,true,true,true,true,true,true,true,true,true,true,true,true,true,true,false,false] rfl rfl (any_of HT_.out (by kernel_rfl)) (fun _ _ _ h => h) (Or.inr ⟨by rfl,rfl⟩) ?_ ?_
                 rotate_left
                 ·simp only [Act.put,sA_,s0_,s1_,i64_w,i32_w]
                  rfl
                 refine pure_ (i:=25) (N:=some 73) (v:=undef) (a':=?_) #[true,true,true,true,true,true,true,true,true,true,true,true,true,true,true,true,true,true,true,true,true,true,true,true,true,true,false] rfl rfl (any_of HT_.out (by kernel_rfl)) (fun _ _ _ h => h) (Or.inr ⟨by rfl,rfl⟩) ?_ ?_
                 rotate_left
                 ·simp only [Act.put,sA_,s0_,s1_,i64_w,i32_w]
                  rfl
                 refine pure_ (i:=26) (N:=some 74) (v:=?_) (a':=?_) #[true,true,true,true,true,true,true,true,true,true,true,true,true,true,true,true,true,true,true,true,true,true,true,true,true,true,true] rfl rfl (any_of HT_.out (by kernel_rfl)) (fun _ _ _ h => h) (Or.inl ⟨by rfl, ?_⟩) ?_ ?_
                 rotate_left
                 ·intro w'
                  go_simp
                  with_reducible rfl
                 rotate_left
                 ·simp only [Act.put,sA_,s0_,s1_,i64_w,i32_w]
                  rfl
                 refine done_ (done_of HT_.out (by kernel_rfl)) ?_
                 try go_wp2
                 go_roundg k2
                 case measure => have:=HK1.out;have:=HK2.out;omega
                 case rel => exact ⟨(x12_2),(wrap64 (x45_2 + 1)),(by first | rfl | (simp;done) | (simp [*];done)),(by first | rfl | (simp;done) | (simp [*];done)),H',⟨by have:=HK1.out;have:=HK2.out;omega⟩,⟨by (try simp only [hl154000_1]);(with_reducible repeat (first | apply Kd.R_alloc | apply Kd.R_drewN | apply Kd.R_drew));exact HO_9.out⟩,⟨by (try simp only [hl154000_1]);(with_reducible repeat (first | apply Kd.R_alloc | apply Kd.R_drewN | apply Kd.R_drew));exact HO_36.out⟩,⟨by (try simp only [hl154000_1]);(with_reducible repeat (first | apply Kd.R_alloc | apply Kd.R_drewN | apply Kd.R_drew));exact HO_154000.out⟩,⟨by (try simp only [hl154000_1]);(with_reducible repeat (first | apply Kd.S_alloc | apply Kd.S_drewN | apply Kd.S_drew));exact HO_154001.out⟩,⟨by (try simp only [hl154000_1]);(with_reducible repeat (first | refine blk_drewN ?_ _ | refine blk_drew ?_ | refine blk_alloc ?_ _));exact BK141.out⟩,⟨by (try simp only [hl154000_1]);(with_reducible repeat (first | refine blk_drewN ?_ _ | refine blk_drew ?_ | refine blk_alloc ?_ _));exact BK142.out⟩,⟨by (try simp only [hl154000_1]);(with_reducible repeat (first | refine blk_drewN ?_ _ | refine blk_drew ?_ | refine blk_alloc ?_ _));exact BK153.out⟩,⟨by repeat (first | (with_reducible first | exact HB.out | apply below_alloc | apply pw_below_drewN | apply below_drew1 | refine below_set ?_ GE141.out | refine below_set ?_ GE142.out | refine below_set ?_ GE153.out) | exact HB.out)⟩⟩
               ·rw [if_neg c50] at H
                exact absurd H (by simp)
              ·rw [if_neg c49] at H
               exact absurd H (by simp)
             ·rw [if_neg c48] at H
              exact absurd H (by simp)
            ·rw [if_neg c47] at H;have c47b0 : decide (x45_2 < (x154001_1.length : Int)) = false:=decide_eq_false c47;clear c47
             by_cases c64 : x12_2 < 0
             ·rw [if_pos c64] at H;have c64b0 : decide (x12_2 < 0) = true:=decide_eq_true c64;clear c64
              by_cases c65 : x9_1.length < 17592186044416
              ·rw [if_pos c65] at H;have LMc65:=am_ c65;clear c65;obtain ⟨y164,hy164⟩ : ∃ y_ : List Int,y_ = (x9_1 ++ [(rd t155 x38_1)]):=⟨_,rfl⟩
               replace H : (impl_CloseSlot.l0 k2 a1 y164 t155 (t155.length : Int) (wrap64 (x38_1 + 1)) y158 x154001_1) = some (r1,r2,r3,r4):=by first | (rw [hy164];with_reducible exact H) | (have H2_:=(Option.bind_some _ _).symm.trans H;rw [hy164];with_reducible exact H2_) | (have H2_:=(Option.bind_some _ _).symm.trans H;with_reducible exact H2_) | with_reducible exact H | (rw [hy164];exact H) | exact H
               have Ny164:=am_ hy164;clear hy164;have H':=am_ H;clear H
               go_wp2_with (first | ((with_reducible refine gate_builtin (b := .append) (xs:=#[.tmp 79, .tmp 81]) rfl ?_);at_builtin;refine Kd.R_append (Kd.int .i64) (w0:=w) w.heap.size rfl (.tmp 79) (.tmp 81) 24 3 (.int .i64 0) 8 rfl Try.underlying24 info3 rfl (by decide) (by omega) u9 x9_1 (rd t155 x38_1) [.int .i64 (rd t155 x38_1)] (fun k_ => some k_ ≠ (.slice (some ad163) t155.length co39 : Value).ownBlock ∧ some k_ ≠ (.slice (some ⟨go1_,0,none⟩) y158.length co23 : Value).ownBlock) (fun _ => False) rfl rfl ?aP (fun _ hk => hk.elim) ?aF ?aO ?aB ?aS ?aL ?_;(case aP => exact rfl);(case aB => exact (by repeat (first | (with_reducible first | exact HB.out | apply below_alloc | apply pw_below_drewN | apply below_drew1 | refine below_set ?_ GE141.out | refine below_set ?_ GE142.out | refine below_set ?_ GE153.out) | exact HB.out)));(case aF => exact (fun k_ hk => ⟨Kd.fresh' (Kd.R_lt (by (with_reducible repeat (first | apply Kd.R_alloc | apply Kd.R_drewN | apply Kd.R_drew));exact HO_36.out)) k_ hk,Kd.fresh' (Kd.R_lt (by (with_reducible repeat (first | apply Kd.R_alloc | apply Kd.R_drewN | apply Kd.R_drew));exact HO_154000.out)) k_ hk⟩));(case aO => exact (by (with_reducible repeat (first | apply Kd.R_alloc | apply Kd.R_drewN | apply Kd.R_drew));exact HO_9.out));(case aS => exact (below_size (by repeat (first | (with_reducible first | exact HB.out | apply below_alloc | apply pw_below_drewN | apply below_drew1 | refine below_set ?_ GE141.out | refine below_set ?_ GE142.out | refine below_set ?_ GE153.out) | exact HB.out))));(case aL => have:=LMc65.out;omega);intro v165 w66 ho hb hg hat;rw [← Ny164.out] at ho;have n0_:=am_ (Kd.R_after (ok:=(fun k_ => some k_ ≠ (.slice (some ⟨go1_,0,none⟩) y158.length co23 : Value).ownBlock)) (by (with_reducible repeat (first | apply Kd.R_alloc | apply Kd.R_drewN | apply Kd.R_drew));exact Kd.R_mono HO_36.out (fun _ hk => ⟨hk.2,hk.1⟩)) hg hat);have n1_:=am_ (Kd.R_after (ok:=(fun k_ => some k_ ≠ (.slice (some ad163) t155.length co39 : Value).ownBlock)) (by (with_reducible repeat (first | apply Kd.R_alloc | apply Kd.R_drewN | apply Kd.R_drew));exact Kd.R_mono HO_154000.out (fun _ hk => ⟨hk.2,hk.1⟩)) hg hat);have n2_:=am_ (Kd.S_after (ok:=(fun k_ => some k_ ≠ (.slice (some ad163) t155.length co39 : Value).ownBlock ∧ some k_ ≠ (.slice (some ⟨go1_,0,none⟩) y158.length co23 : Value).ownBlock)) (by (with_reducible repeat (first | apply Kd.S_alloc | apply Kd.S_drewN | apply Kd.S_drew));exact Kd.S_mono HO_154001.out (fun _ hk => ⟨⟨hk.2.1,hk.2.2⟩,hk.1⟩)) hg hat);have n3_:=am_ (blk_grown (g:=gb141) (o := .cells #[.slice A0_0 l0_0.length c0_0, .slice A0_1 l0_1.length c0_1] 27 (0,0)) (by (with_reducible repeat (first | refine blk_drewN ?_ _ | refine blk_drew ?_ | refine blk_alloc ?_ _));exact BK141.out) hg (Kd.R_ne HO_9.out BK141.out (by decide)));have n4_:=am_ (blk_grown (g:=gb142) (o := .cells #[.slice none 0 0, .slice none 0 0] 27 (0,0)) (by (with_reducible repeat (first | refine blk_drewN ?_ _ | refine blk_drew ?_ | refine blk_alloc ?_ _));exact BK142.out) hg (Kd.R_ne HO_9.out BK142.out (by decide)));have n5_:=am_ (blk_grown (g:=gb153) (o := .cells #[.slice (some ⟨go1_,0,none⟩) y158.length co23, .slice Ao46 x154001_1.length co46] 27 (0,0)) (by (with_reducible repeat (first | refine blk_drewN ?_ _ | refine blk_drew ?_ | refine blk_alloc ?_ _));exact BK153.out) hg (Kd.R_ne HO_9.out BK153.out (by decide)));have n6_:=am_ hb;have n7_:=am_ (ho);clear HO_36;clear HO_154000;clear HO_154001;clear BK141;clear BK142;clear BK153;clear HB;clear HO_9;have HO_36:=n0_;have HO_154000:=n1_;have HO_154001:=n2_;have BK141:=n3_;have BK142:=n4_;have BK153:=n5_;have HB:=n6_;have HO166:=n7_;clear n0_ n1_ n2_ n3_ n4_ n5_ n6_ n7_;clear ho hb hg hat))
               (try simp only [← hl154000_1])
               go_roundg k2
               case measure => have:=HK1.out;have:=HK2.out;omega
               case rel => exact ⟨(y164),(wrap64 (x38_1 + 1)),(x154001_1),(.slice Ao46 x154001_1.length co46),(by first | rfl | (simp;done) | (simp [*];done)),H',⟨by have:=HK1.out;have:=HK2.out;omega⟩,⟨by (try simp only [hl154000_1]);(with_reducible repeat (first | apply Kd.R_alloc | apply Kd.R_drewN | apply Kd.R_drew));exact HO166.out⟩,⟨by (try simp only [hl154000_1]);(with_reducible repeat (first | apply Kd.R_alloc | apply Kd.R_drewN | apply Kd.R_drew));exact Kd.R_mono HO_36.out (fun _ hk => ⟨hk.2,hk.1⟩)⟩,⟨by (try simp only [hl154000_1]);(with_reducible repeat (first | apply Kd.R_alloc | apply Kd.R_drewN | apply Kd.R_drew));exact Kd.R_mono HO_154000.out (fun _ hk => ⟨hk.2,hk.1⟩)⟩,⟨by (try simp only [hl154000_1]);(with_reducible repeat (first | apply Kd.S_alloc | apply Kd.S_drewN | apply Kd.S_drew));exact Kd.S_mono HO_154001.out (fun _ hk => ⟨hk.2,⟨hk.1.1,hk.1.2⟩⟩)⟩,⟨by (try simp only [hl154000_1]);(with_reducible repeat (first | refine blk_drewN ?_ _ | refine blk_drew ?_ | refine blk_alloc ?_ _));exact BK141.out⟩,⟨by (try simp only [hl154000_1]);(with_reducible repeat (first | refine blk_drewN ?_ _ | refine blk_drew ?_ | refine blk_alloc ?_ _));exact BK142.out⟩,⟨by (try simp only [hl154000_1]);(with_reducible repeat (first | refine blk_drewN ?_ _ | refine blk_drew ?_ | refine blk_alloc ?_ _));exact BK153.out⟩,⟨by repeat (first | (with_reducible first | exact HB.out | apply below_alloc | apply pw_below_drewN | apply below_drew1 | refine below_set ?_ GE141.out | refine below_set ?_ GE142.out | refine below_set ?_ GE153.out) | exact HB.out)⟩⟩
              ·rw [if_neg c65] at H
               exact absurd H (by simp)
             ·rw [if_neg c64] at H;have c64b0 : decide (x12_2 < 0) = false:=decide_eq_false c64;clear c64;replace H:=Option.bind_eq_some_iff.mp H;obtain ⟨t167,A670,H⟩ := H;replace H : (impl_CloseSlot.l0 k2 a1 x9_1 t155 (t155.length : Int) (wrap64 (x38_1 + 1)) y158 t167) = some (r1,r2,r3,r4):=H;have A67:=am_ A670;clear A670;have H':=am_ H;clear H;have hnb68:=NB153_141.out;have hnc68:=NB141_153.out;have hnb69:=NB153_142.out;have hnc69:=NB142_153.out;have hcz70_0:=c2_0 BK153.out;have hcz70_1:=c2_1 BK153.out;have hfz70_0:=blk_frozen BK153.out 0;have hfz70_1:=blk_frozen BK153.out 1
              go_wp2_with (first | ((with_reducible refine gate_callee (f:=45) rfl ?_);refine goesL_ (some 86) rfl rfl Try.func45 (by kernel_rfl) rfl #[.agg #[.slice (some ⟨go1_,0,none⟩) y158.length co23, .slice Ao46 x154001_1.length co46], .int .i64 (rd t155 x38_1), .int .i64 x12_2] rfl (by (try simp only [List.map_toArray,List.map_cons,List.map_nil]);first | done | rfl | (simp only [List.length_drop,List.length_take];rfl)) ?_;(with_reducible refine (impl_Gate_put.calls _ _ y158 (fun k_ => ((((some k_ ≠ (u9 : Value).ownBlock ∧ (some k_ ≠ (.slice (some ad163) t155.length co39 : Value).ownBlock ∧ some k_ ≠ (.slice (some ⟨go1_,0,none⟩) y158.length co23 : Value).ownBlock)) ∧ k_ ≠ gb141) ∧ k_ ≠ gb142) ∧ k_ ≠ gb153) ∧ w.heap.size ≤ k_) (.slice Ao46 x154001_1.length co46) x154001_1 (rd t155 x38_1) x12_2 t167 w _ ?side1 ?side2 ?side3 ?side4 A67.out).mono ?_);(case side1 => repeat (first | (with_reducible first | exact HB.out | apply below_alloc | apply pw_below_drewN | apply below_drew1 | refine below_set ?_ GE141.out | refine below_set ?_ GE142.out | refine below_set ?_ GE153.out) | exact HB.out));(case side2 => exact Kd.C_kept_own ((Kd.R_mono (ok':=fun k_ => (some k_ ≠ (u9 : Value).ownBlock ∧ some k_ ≠ (.slice (some ad163) t155.length co39 : Value).ownBlock) ∧ ¬ (((((some k_ ≠ (u9 : Value).ownBlock ∧ (some k_ ≠ (.slice (some ad163) t155.length co39 : Value).ownBlock ∧ some k_ ≠ (.slice (some ⟨go1_,0,none⟩) y158.length co23 : Value).ownBlock)) ∧ k_ ≠ gb141) ∧ k_ ≠ gb142) ∧ k_ ≠ gb153) ∧ w.heap.size ≤ k_)) (Kd.R_tight2 rfl HO_154000.out) (fun k_ hk => ⟨hk.2,fun hP_ => (hP_.1.1.1.1.2.2) hk.1⟩))) (fun k_ hk_ hs_ => (hk_.2) hs_));(case side3 => exact (Kd.R_reads' HO_154000.out).2.1);(case side4 => exact Kd.S_ge ((Kd.S_types (Kd.S_types (Kd.S_types HO_154001.out BK141.out (by decide)) BK142.out (by decide)) BK153.out (by decide))));rintro e w71 ⟨rfl,hy0,hb,hkp⟩;refine ⟨_,rfl, ?_⟩;have n0_:=am_ (Kd.R_mono (ok':=fun k_ => some k_ ≠ (.slice (some ad163) t155.length co39 : Value).ownBlock ∧ some k_ ≠ (.slice (some ⟨go1_,0,none⟩) y158.length co23 : Value).ownBlock) (Kd.R_keptB ((Kd.R_mono (ok':=fun k_ => (some k_ ≠ (.slice (some ad163) t155.length co39 : Value).ownBlock ∧ some k_ ≠ (.slice (some ⟨go1_,0,none⟩) y158.length co23 : Value).ownBlock) ∧ ¬ (((((some k_ ≠ (u9 : Value).ownBlock ∧ (some k_ ≠ (.slice (some ad163) t155.length co39 : Value).ownBlock ∧ some k_ ≠ (.slice (some ⟨go1_,0,none⟩) y158.length co23 : Value).ownBlock)) ∧ k_ ≠ gb141) ∧ k_ ≠ gb142) ∧ k_ ≠ gb153) ∧ w.heap.size ≤ k_)) (Kd.R_tight2 rfl HO_9.out) (fun k_ hk => ⟨hk.2,fun hP_ => (hP_.1.1.1.1.1) hk.1⟩))) hkp (fun k_ hk_ hs_ => (hk_.2) hs_)) (fun k_ hk_ => ⟨hk_.1.1.1,hk_.1.1.2⟩));have n1_:=am_ (Kd.R_mono (ok':=fun k_ => some k_ ≠ (u9 : Value).ownBlock ∧ some k_ ≠ (.slice (some ⟨go1_,0,none⟩) y158.length co23 : Value).ownBlock) (Kd.R_keptB ((Kd.R_mono (ok':=fun k_ => (some k_ ≠ (u9 : Value).ownBlock ∧ some k_ ≠ (.slice (some ⟨go1_,0,none⟩) y158.length co23 : Value).ownBlock) ∧ ¬ (((((some k_ ≠ (u9 : Value).ownBlock ∧ (some k_ ≠ (.slice (some ad163) t155.length co39 : Value).ownBlock ∧ some k_ ≠ (.slice (some ⟨go1_,0,none⟩) y158.length co23 : Value).ownBlock)) ∧ k_ ≠ gb141) ∧ k_ ≠ gb142) ∧ k_ ≠ gb153) ∧ w.heap.size ≤ k_)) (Kd.R_tight2 rfl HO_36.out) (fun k_ hk => ⟨hk.2,fun hP_ => (hP_.1.1.1.1.2.1) hk.1⟩))) hkp (fun k_ hk_ hs_ => (hk_.2) hs_)) (fun k_ hk_ => ⟨hk_.1.1.1,hk_.1.1.2⟩));have n2_:=am_ (Kd.R_mono (ok':=fun k_ => some k_ ≠ (u9 : Value).ownBlock ∧ some k_ ≠ (.slice (some ad163) t155.length co39 : Value).ownBlock) (Kd.R_keptB ((Kd.R_mono (ok':=fun k_ => (some k_ ≠ (u9 : Value).ownBlock ∧ some k_ ≠ (.slice (some ad163) t155.length co39 : Value).ownBlock) ∧ ¬ (((((some k_ ≠ (u9 : Value).ownBlock ∧ (some k_ ≠ (.slice (some ad163) t155.length co39 : Value).ownBlock ∧ some k_ ≠ (.slice (some ⟨go1_,0,none⟩) y158.length co23 : Value).ownBlock)) ∧ k_ ≠ gb141) ∧ k_ ≠ gb142) ∧ k_ ≠ gb153) ∧ w.heap.size ≤ k_)) (Kd.R_tight2 rfl HO_154000.out) (fun k_ hk => ⟨hk.2,fun hP_ => (hP_.1.1.1.1.2.2) hk.1⟩))) hkp (fun k_ hk_ hs_ => (hk_.2) hs_)) (fun k_ hk_ => ⟨hk_.1.1.1,hk_.1.1.2⟩));have n3_:=am_ (Kd.S_mono (ok':=fun k_ => (some k_ ≠ (u9 : Value).ownBlock ∧ (some k_ ≠ (.slice (some ad163) t155.length co39 : Value).ownBlock ∧ some k_ ≠ (.slice (some ⟨go1_,0,none⟩) y158.length co23 : Value).ownBlock))) hy0 (fun k_ hk_ => Or.elim hk_ (fun h_ => ⟨h_.1.1.1.1.1,⟨h_.1.1.1.1.2.1,h_.1.1.1.1.2.2⟩⟩) (fun hn_ => ⟨(fun e_ => Nat.not_le.2 (Kd.R_lt (by (with_reducible repeat (first | apply Kd.R_alloc | apply Kd.R_drewN | apply Kd.R_drew));exact HO_9.out) k_ e_.symm) hn_),⟨(fun e_ => Nat.not_le.2 (Kd.R_lt (by (with_reducible repeat (first | apply Kd.R_alloc | apply Kd.R_drewN | apply Kd.R_drew));exact HO_36.out) k_ e_.symm) hn_),(fun e_ => Nat.not_le.2 (Kd.R_lt (by (with_reducible repeat (first | apply Kd.R_alloc | apply Kd.R_drewN | apply Kd.R_drew));exact HO_154000.out) k_ e_.symm) hn_)⟩⟩)));have n4_:=am_ (blk_kept (by (with_reducible repeat (first | refine blk_drewN ?_ _ | refine blk_drew ?_ | refine blk_alloc ?_ _));exact BK141.out) hkp (fun hs_ => (fun e_ => (e_.1.1.1.2) rfl) hs_));have n5_:=am_ (blk_kept (by (with_reducible repeat (first | refine blk_drewN ?_ _ | refine blk_drew ?_ | refine blk_alloc ?_ _));exact BK142.out) hkp (fun hs_ => (fun e_ => (e_.1.1.2) rfl) hs_));have n6_:=am_ (blk_kept (by (with_reducible repeat (first | refine blk_drewN ?_ _ | refine blk_drew ?_ | refine blk_alloc ?_ _));exact BK153.out) hkp (fun hs_ => (fun e_ => (e_.1.2) rfl) hs_));have n7_:=am_ hb;clear HO_9;clear HO_36;clear HO_154000;clear HO_154001;clear BK141;clear BK142;clear BK153;clear HB;have HO_9:=n0_;have HO_36:=n1_;have HO_154000:=n2_;have HO_154001:=n3_;have BK141:=n4_;have BK142:=n5_;have BK153:=n6_;have HB:=n7_;clear n0_ n1_ n2_ n3_ n4_ n5_ n6_ n7_;(try clear hb);(try clear hkp);(try clear hy0)))
              (try simp only [← hl154000_1])
              go_roundg k2
              case measure => have:=HK1.out;have:=HK2.out;omega
              case rel => exact ⟨(x9_1),(wrap64 (x38_1 + 1)),(t167),(.slice Ao46 x154001_1.length co46),(by first | rfl | (simp;done) | (simp [*];done)),H',⟨by have:=HK1.out;have:=HK2.out;omega⟩,⟨by (try simp only [hl154000_1]);(with_reducible repeat (first | apply Kd.R_alloc | apply Kd.R_drewN | apply Kd.R_drew));exact HO_9.out⟩,⟨by (try simp only [hl154000_1]);(with_reducible repeat (first | apply Kd.R_alloc | apply Kd.R_drewN | apply Kd.R_drew));exact HO_36.out⟩,⟨by (try simp only [hl154000_1]);(with_reducible repeat (first | apply Kd.R_alloc | apply Kd.R_drewN | apply Kd.R_drew));exact HO_154000.out⟩,⟨by (try simp only [hl154000_1]);(with_reducible repeat (first | apply Kd.S_alloc | apply Kd.S_drewN | apply Kd.S_drew));exact HO_154001.out⟩,⟨by (try simp only [hl154000_1]);(with_reducible repeat (first | refine blk_drewN ?_ _ | refine blk_drew ?_ | refine blk_alloc ?_ _));exact BK141.out⟩,⟨by (try simp only [hl154000_1]);(with_reducible repeat (first | refine blk_drewN ?_ _ | refine blk_drew ?_ | refine blk_alloc ?_ _));exact BK142.out⟩,⟨by (try simp only [hl154000_1]);(with_reducible repeat (first | refine blk_drewN ?_ _ | refine blk_drew ?_ | refine blk_alloc ?_ _));exact BK153.out⟩,⟨by repeat (first | (with_reducible first | exact HB.out | apply below_alloc | apply pw_below_drewN | apply below_drew1 | refine below_set ?_ GE141.out | refine below_set ?_ GE142.out | refine below_set ?_ GE153.out) | exact HB.out)⟩⟩
         ·rw [if_neg c42] at H
          exact absurd H (by simp)
        ·rw [if_neg c41] at H
         exact absurd H (by simp)
       ·rw [if_neg c40] at H;have c40b0 : decide (x38_1 < (t155.length : Int)) = false:=decide_eq_false c40;clear c40;simp only [Option.some.injEq,Prod.mk.injEq] at H;obtain ⟨rfl,rfl,rfl,rfl⟩ := H;have hnb72:=NB153_141.out;have hnc72:=NB141_153.out;have hnb73:=NB153_142.out;have hnc73:=NB142_153.out;have hcz74_0:=c2_0 BK153.out;have hcz74_1:=c2_1 BK153.out;have hfz74_0:=blk_frozen BK153.out 0;have hfz74_1:=blk_frozen BK153.out 1;have hnb75:=NB142_141.out;have hnc75:=NB141_142.out;have hcz76_0:=c2_0 BK142.out;have hcz76_1:=c2_1 BK142.out;have hfz76_0:=blk_frozen BK142.out 0;have hfz76_1:=blk_frozen BK142.out 1;obtain ⟨Ao77,co77,eo77⟩ := Kd.S_slice HO_154001.out;subst eo77
        go_wp2
        refine bodyPost_ret (results_ctt rfl _ _ gb142 27 #[.slice (some ⟨go1_,0,none⟩) y158.length co23, .slice Ao77 x154001_1.length co77] (0,0) _ rfl (by (with_reducible repeat (first | refine blk_drewN ?_ _ | refine blk_drew ?_ | refine blk_alloc ?_ _));refine blk_put (cs:=#[.slice (some ⟨go1_,0,none⟩) y158.length co23, .slice none 0 0]) ?_ 1 _ rfl;(with_reducible repeat (first | refine blk_drewN ?_ _ | refine blk_drew ?_ | refine blk_alloc ?_ _));refine blk_put (cs:=#[.slice none 0 0, .slice none 0 0]) ?_ 0 _ rfl;(with_reducible repeat (first | refine blk_drewN ?_ _ | refine blk_drew ?_ | refine blk_alloc ?_ _));exact BK142.out) Try.underlying27 rfl (by kernel_rfl)) rfl ?_
        exact ⟨_,_,_,by first | rfl | (simp [errW_none,errW_some] <;> rfl) | (simp [*,errW_none,errW_some] <;> rfl),by (with_reducible repeat (first | apply Kd.R_alloc | apply Kd.R_drewN | apply Kd.R_drew));exact Kd.R_mono (rf2_ (Kd.R_types HO_154000.out BK142.out (by decide)) (.slice (some ⟨go1_,0,none⟩) y158.length co23) (.slice Ao77 x154001_1.length co77)) (fun _ hk => hk.1.1),by (with_reducible repeat (first | apply Kd.S_alloc | apply Kd.S_drewN | apply Kd.S_drew));exact Kd.S_mono (Kd.S_far (p:=⟨gb142,1,none⟩) (Kd.S_far (p:=⟨gb142,0,none⟩) (Kd.S_types HO_154001.out BK142.out (by decide)) (fun _ hk => hk.2) (.slice (some ⟨go1_,0,none⟩) y158.length co23)) (fun _ hk => hk.2) (.slice Ao77 x154001_1.length co77)) (fun _ hk => ⟨hk.1.2.2,hk.1.1⟩),by (with_reducible repeat (first | apply Kd.R_alloc | apply Kd.R_drewN | apply Kd.R_drew));exact Kd.R_mono (rf2_ (Kd.R_types HO_9.out BK142.out (by decide)) (.slice (some ⟨go1_,0,none⟩) y158.length co23) (.slice Ao77 x154001_1.length co77)) (fun _ hk => hk.1.2),by repeat (first | (with_reducible first | exact HB.out | apply below_alloc | apply pw_below_drewN | apply below_drew1 | refine below_set ?_ GE141.out | refine below_set ?_ GE142.out | refine below_set ?_ GE153.out) | exact HB.out)⟩
    ·rw [if_neg c9] at H
     exact absurd H (by simp)
   ·rw [if_neg c7] at H
    exact absurd H (by simp)
  ·rw [if_neg c6] at H
   exact absurd H (by simp)
 ·replace c4:=Bool.eq_false_iff.mpr c4;subst c4
  have H1 : (some (([] : List Int),([] : List (List Int)),([] : List Int),false)) = some (r1,r2,r3,r4):=by rw [if_neg (show ¬ (false = true) by decide)] at H;exact H
  clear H;have H:=H1;clear H1;simp only [Option.some.injEq,Prod.mk.injEq] at H;obtain ⟨rfl,rfl,rfl,rfl⟩ := H
  go_enter Try.func23,Try.ntmps23
  go_wp2_with (first | ((with_reducible refine gate_dst (N:=2) rfl ?_);refine box_event ?hg (N:=2) ?hd (cs:=#[.slice A0_0 l0_0.length c0_0, .slice A0_1 l0_1.length c0_1]) (t:=27) ?hr ?_;(case hd => rfl);(case hg => rfl);(case hr => first | (go_simp;done) | (go_simp;rfl));intro gb141 hg w78 hbox hb;have n0_:=am_ (below_step (by repeat (first | (with_reducible first | exact HB.out | apply below_alloc | apply pw_below_drewN | apply below_drew1) | exact HB.out)) hb);have n1_:=am_ hbox;have n2_:=am_ ((by rw [hg];exact (below_size (by repeat (first | (with_reducible first | exact HB.out | apply below_alloc | apply pw_below_drewN | apply below_drew1) | exact HB.out))) : w.heap.size ≤ gb141));have n3_:=am_ ((by rw [hg];exact (below_size (by repeat (first | (with_reducible first | exact HB.out | apply below_alloc | apply pw_below_drewN | apply below_drew1) | exact HB.out))) : w.heap.size ≤ gb141));clear HB;have HB:=n0_;have BK141:=n1_;have GW141:=n2_;have GE141:=n3_;clear n0_ n1_ n2_ n3_;clear hb hbox hg) | ((with_reducible refine gate_dst (N:=4) rfl ?_);refine box_event ?hg (N:=4) ?hd (cs:=#[.slice none 0 0, .slice none 0 0]) (t:=27) ?hr ?_;(case hd => rfl);(case hg => rfl);(case hr => first | (go_simp;done) | (go_simp;rfl));intro gb142 hg w79 hbox hb;have n0_:=am_ (blk_below (g:=gb141) (o := .cells #[.slice A0_0 l0_0.length c0_0, .slice A0_1 l0_1.length c0_1] 27 (0,0)) (by (with_reducible repeat (first | refine blk_drewN ?_ _ | refine blk_drew ?_ | refine blk_alloc ?_ _));exact BK141.out) hb);have n1_:=am_ (below_step (by repeat (first | (with_reducible first | exact HB.out | apply below_alloc | apply pw_below_drewN | apply below_drew1 | refine below_set ?_ GE141.out) | exact HB.out)) hb);have n2_:=am_ hbox;have n3_:=am_ ((by rw [hg];exact (below_size (by repeat (first | (with_reducible first | exact HB.out | apply below_alloc | apply pw_below_drewN | apply below_drew1 | refine below_set ?_ GE141.out) | exact HB.out))) : w.heap.size ≤ gb142));have n4_:=am_ ((by rw [hg];exact (below_size (by repeat (first | (with_reducible first | exact HB.out | apply below_alloc | apply pw_below_drewN | apply below_drew1 | refine below_set ?_ GE141.out) | exact HB.out))) : w.heap.size ≤ gb142));have n5_:=am_ ((by rw [hg];exact Nat.ne_of_lt (blk_lt (g:=gb141) (o := .cells #[.slice A0_0 l0_0.length c0_0, .slice A0_1 l0_1.length c0_1] 27 (0,0)) (by (with_reducible repeat (first | refine blk_drewN ?_ _ | refine blk_drew ?_ | refine blk_alloc ?_ _));exact BK141.out)) : gb141 ≠ gb142));have n6_:=am_ ((by rw [hg];exact Nat.ne_of_gt (blk_lt (g:=gb141) (o := .cells #[.slice A0_0 l0_0.length c0_0, .slice A0_1 l0_1.length c0_1] 27 (0,0)) (by (with_reducible repeat (first | refine blk_drewN ?_ _ | refine blk_drew ?_ | refine blk_alloc ?_ _));exact BK141.out)) : gb142 ≠ gb141));clear BK141;clear HB;have BK141:=n0_;have HB:=n1_;have BK142:=n2_;have GW142:=n3_;have GE142:=n4_;have NB141_142:=n5_;have NB142_141:=n6_;clear n0_ n1_ n2_ n3_ n4_ n5_ n6_;clear hb hbox hg;have hnb80:=NB141_142.out;have hnc80:=NB142_141.out;have hcz81_0:=c2_0 BK141.out;have hcz81_1:=c2_1 BK141.out;have hfz81_0:=blk_frozen BK141.out 0;have hfz81_1:=blk_frozen BK141.out 1) | ((with_reducible refine gate_dst (N:=16) rfl ?_);refine Kd.R_lit (Kd.int .i64) _ 3 ?hg (N:=16) ?hd (xs:=([a1] : List Int)) (inner := [.int .i64 a1]) (ok:=fun _ => True) (okp:=fun _ => True) ?hr ?hp (fun _ hk => hk) trivial (Below.refl _ _) (Nat.le_refl _) (by simp) ?_;(case hd => rfl);(case hg => rfl);(case hr => first | (go_simp;done) | (go_simp;rfl));(case hp => exact (Reps.one (show Kd.M (Kd.int .i64) _ _ _ a1 [.int .i64 a1] from rfl) (Reps.none _ _)));intro v144 w82 ho83 hb hg_ hnew_;clear hg_ hnew_;(first | rw [← Ny143.out] at ho83 | (simp only [Int.reduceToNat] at ho83;rw [← Ny143.out] at ho83));have n0_:=am_ (Kd.R_lower ho83 (below_size (by repeat (first | (with_reducible first | exact HB.out | apply below_alloc | apply pw_below_drewN | apply below_drew1 | refine below_set ?_ GE141.out | refine below_set ?_ GE142.out) | exact HB.out))));have n1_:=am_ (blk_below (g:=gb141) (o := .cells #[.slice A0_0 l0_0.length c0_0, .slice A0_1 l0_1.length c0_1] 27 (0,0)) (by (with_reducible repeat (first | refine blk_drewN ?_ _ | refine blk_drew ?_ | refine blk_alloc ?_ _));exact BK141.out) hb);have n2_:=am_ (blk_below (g:=gb142) (o := .cells #[.slice none 0 0, .slice none 0 0] 27 (0,0)) (by (with_reducible repeat (first | refine blk_drewN ?_ _ | refine blk_drew ?_ | refine blk_alloc ?_ _));exact BK142.out) hb);have n3_:=am_ (below_step (by repeat (first | (with_reducible first | exact HB.out | apply below_alloc | apply pw_below_drewN | apply below_drew1 | refine below_set ?_ GE141.out | refine below_set ?_ GE142.out) | exact HB.out)) hb);clear BK141;clear BK142;clear HB;have HO145:=n0_;have BK141:=n1_;have BK142:=n2_;have HB:=n3_;clear n0_ n1_ n2_ n3_;clear hb ho83;obtain ⟨Ao84,co84,eo84⟩ := Kd.R_slice HO145.out;subst eo84) | ((with_reducible refine gate_callee (f:=42) rfl ?_);refine goesL_ (some 17) rfl rfl Try.func42 (by kernel_rfl) rfl #[.agg #[.slice A0_0 l0_0.length c0_0, .slice A0_1 l0_1.length c0_1], .int .i64 1, .slice Ao84 y143.length co84] rfl (by (try simp only [List.map_toArray,List.map_cons,List.map_nil]);first | done | rfl | (simp only [List.length_drop,List.length_take];rfl)) ?_;(with_reducible refine (impl_isGateFor.calls k _ _ l0_0 _ _ l0_1 1 _ _ y143 false _ ?side1 ?side2 ?side3 ?side4 ?side5 ?side6 A3.out).mono ?_);(case side1 => repeat (first | exact (Kd.C_below HR0_0.out HB.out) | (with_reducible refine Kd.C_alloc ?_ _) | (with_reducible refine Kd.C_drewN ?_ _) | (with_reducible refine Kd.C_drew ?_)));(case side2 => exact HC0_0.out);(case side3 => repeat (first | exact (Kd.C_below HR0_1.out HB.out) | (with_reducible refine Kd.C_alloc ?_ _) | (with_reducible refine Kd.C_drewN ?_ _) | (with_reducible refine Kd.C_drew ?_)));(case side4 => exact HC0_1.out);(case side5 => repeat (first | exact (Kd.R_reads' HO145.out).2.2 | (with_reducible refine Kd.C_alloc ?_ _) | (with_reducible refine Kd.C_drewN ?_ _) | (with_reducible refine Kd.C_drew ?_)));(case side6 => exact (Kd.R_reads' HO145.out).2.1);rintro e w85 ⟨rfl,hb⟩;refine ⟨_,rfl, ?_⟩;have n0_:=am_ (Kd.R_below (by (with_reducible repeat (first | apply Kd.R_alloc | apply Kd.R_drewN | apply Kd.R_drew));exact HO145.out) hb);have n1_:=am_ (blk_below (g:=gb141) (o := .cells #[.slice A0_0 l0_0.length c0_0, .slice A0_1 l0_1.length c0_1] 27 (0,0)) (by (with_reducible repeat (first | refine blk_drewN ?_ _ | refine blk_drew ?_ | refine blk_alloc ?_ _));exact BK141.out) hb);have n2_:=am_ (blk_below (g:=gb142) (o := .cells #[.slice none 0 0, .slice none 0 0] 27 (0,0)) (by (with_reducible repeat (first | refine blk_drewN ?_ _ | refine blk_drew ?_ | refine blk_alloc ?_ _));exact BK142.out) hb);have n3_:=am_ (below_step (by repeat (first | (with_reducible first | exact HB.out | apply below_alloc | apply pw_below_drewN | apply below_drew1 | refine below_set ?_ GE141.out | refine below_set ?_ GE142.out) | exact HB.out)) hb);clear HO145;clear BK141;clear BK142;clear HB;have HO145:=n0_;have BK141:=n1_;have BK142:=n2_;have HB:=n3_;clear n0_ n1_ n2_ n3_;(try clear hb);(try clear hb2);(try clear hk);(try clear hi);have hcz86_0:=c2_0 BK142.out;have hcz86_1:=c2_1 BK142.out;have hfz86_0:=blk_frozen BK142.out 0;have hfz86_1:=blk_frozen BK142.out 1))
  refine bodyPost_ret (results_ctt rfl _ _ gb142 27 #[.slice none 0 0, .slice none 0 0] (0,0) _ rfl (by (with_reducible repeat (first | refine blk_drewN ?_ _ | refine blk_drew ?_ | refine blk_alloc ?_ _));refine blk_put (cs:=#[.slice none 0 0, .slice none 0 0]) ?_ 1 _ rfl;(with_reducible repeat (first | refine blk_drewN ?_ _ | refine blk_drew ?_ | refine blk_alloc ?_ _));refine blk_put (cs:=#[.slice none 0 0, .slice none 0 0]) ?_ 0 _ rfl;(with_reducible repeat (first | refine blk_drewN ?_ _ | refine blk_drew ?_ | refine blk_alloc ?_ _));exact BK142.out) Try.underlying27 rfl (by kernel_rfl)) rfl ?_
  exact ⟨_,_,_,by first | rfl | (simp [errW_none,errW_some] <;> rfl) | (simp [*,errW_none,errW_some] <;> rfl),by first | exact Kd.R_nil _ _ _ _ _ | exact Kd.N_nil _ _ _ _ _ | exact Kd.V_nil _ _ _ _ _ | exact Kd.Q_nil _ _ _ _ _ | exact Kd.S_nil _ _ _ _ _,by first | exact Kd.S_nil _ _ _ _ _ | exact Kd.N_nil _ _ _ _ _ | exact Kd.V_nil _ _ _ _ _ | exact Kd.Q_nil _ _ _ _ _ | exact Kd.R_nil _ _ _ _ _,by first | exact Kd.R_nil _ _ _ _ _ | exact Kd.N_nil _ _ _ _ _ | exact Kd.V_nil _ _ _ _ _ | exact Kd.Q_nil _ _ _ _ _ | exact Kd.S_nil _ _ _ _ _,by repeat (first | (with_reducible first | exact HB.out | apply below_alloc | apply pw_below_drewN | apply below_drew1 | refine below_set ?_ GE141.out | refine below_set ?_ GE142.out) | exact HB.out)⟩

end Go.Proofs.Ytglfjaaaegfdnaa.PFnExactCloseSlot
