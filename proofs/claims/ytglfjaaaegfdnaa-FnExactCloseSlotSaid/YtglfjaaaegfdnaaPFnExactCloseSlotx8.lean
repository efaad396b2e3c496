-- Written by a program of this session, over the kit's print (wip/xprint.py)
import Derived.Test.YtglfjaaaegfdnaaPFnExactCloseSlotx0
import Derived.Test.YtglfjaaaegfdnaaPFnExactCloseSlotx5
import Derived.Test.YtglfjaaaegfdnaaPFnExactCloseSlotx6
import Derived.Test.YtglfjaaaegfdnaaPFnExactCloseSlotx7
namespace Go.Proofs.Ytglfjaaaegfdnaa.PFnExactCloseSlot
open Go.RowKit Go.Proofs.YtglfjaaaegfdnaaW.PrintWords Go.Proofs.YtglfjaaaegfdnaaW.PrintLast Go.Proofs.YtglfjaaaegfdnaaW.PrintMore
attribute [local go_sem] max2_int min2_int max_two min_two max_three min_three max_four min_four   -- for this text's walks alone
set_option linter.unusedVariables false
set_option linter.unusedSimpArgs false

/-! ### spec_CloseSlot: function 24 -/
mutual
def spec_CloseSlot.j0 : Nat → Int → List Int → Bool → List Int → List (List Int) → Option (List Int × (List (List Int)) × List Int × Bool)
 | 0,_,_,_,_,_ => none
 | k + 1,x1,x7,x21,x252000,x252001 => if x21 = true then (some (([] : List Int),([] : List (List Int)),x7,false)) else ((spec_l18Own.f k x252000 x252001).bind fun bt258 => (if 0 ≤ x1 then (if x1 < (bt258.1.length : Int) then (if x1 < (bt258.2.length : Int) then (spec_CloseSlot.l0 k x1 x7 0 x252000 x252001 (bt258.1.set (x1 : Int).toNat 0) (bt258.2.set (x1 : Int).toNat (([] : List Int)))) else (none)) else (none)) else (none)))
def spec_CloseSlot.l0 : Nat → Int → List Int → Int → List Int → List (List Int) → List Int → List (List Int) → Option (List Int × (List (List Int)) × List Int × Bool)
 | 0,_,_,_,_,_,_,_ => none
 | k + 1,x1,x7,x9,x252000,x252001,x265000,x265001 => if 0 ≤ x1 then (if x1 < (x252001.length : Int) then (if x9 < ((rd_L1 x252001 x1).length : Int) then (spec_CloseSlot.l1 k x1 x7 x9 (-1) 1 x252000 x252001 x265000 x265001) else (some (x265000,x265001,x7,true))) else (none)) else (none)
def spec_CloseSlot.l1 : Nat → Int → List Int → Int → Int → Int → List Int → List (List Int) → List Int → List (List Int) → Option (List Int × (List (List Int)) × List Int × Bool)
 | 0,_,_,_,_,_,_,_,_,_ => none
 | k + 1,x1,x7,x9,x10,x11,x252000,x252001,x265000,x265001 => if x11 < (x252001.length : Int) then (spec_CloseSlot.j3 k x1 x7 x9 x10 x11 (decide (x10 < 0)) x252000 x252001 x265000 x265001) else (spec_CloseSlot.j3 k x1 x7 x9 x10 x11 false x252000 x252001 x265000 x265001)
def spec_CloseSlot.j3 : Nat → Int → List Int → Int → Int → Int → Bool → List Int → List (List Int) → List Int → List (List Int) → Option (List Int × (List (List Int)) × List Int × Bool)
 | 0,_,_,_,_,_,_,_,_,_,_ => none
 | k + 1,x1,x7,x9,x10,x11,x53,x252000,x252001,x265000,x265001 => if x53 = true then ((spec_l18Slot.f x252000 x252001 (wrap64 (x1 - x11))).bind fun t283 => (if t283 = true then (if 0 ≤ (wrap64 (x1 - x11)) then (if (wrap64 (x1 - x11)) < (x265001.length : Int) then (if (wrap64 (x1 - x11)) < (x265000.length : Int) then (spec_CloseSlot.j4 k x1 x7 x9 x10 x11 (decide (((rd_L1 x265001 (wrap64 (x1 - x11))).length : Int) < (rd x265000 (wrap64 (x1 - x11))))) x252000 x252001 x265000 x265001) else (none)) else (none)) else (none)) else (spec_CloseSlot.j4 k x1 x7 x9 x10 x11 false x252000 x252001 x265000 x265001))) else (if x10 < 0 then (if 0 ≤ x1 then (if x1 < (x252001.length : Int) then (if 0 ≤ x9 then (if x9 < ((rd_L1 x252001 x1).length : Int) then (if x7.length < 17592186044416 then (spec_CloseSlot.l0 k x1 (x7 ++ [rd (rd_L1 x252001 x1) x9]) (wrap64 (x9 + 1)) x252000 x252001 x265000 x265001) else (none)) else (none)) else (none)) else (none)) else (none)) else (if 0 ≤ x10 then (if x10 < (x265001.length : Int) then (if 0 ≤ x1 then (if x1 < (x252001.length : Int) then (if 0 ≤ x9 then (if x9 < ((rd_L1 x252001 x1).length : Int) then ((spec_l1Put.f k (rd_L1 x265001 x10) (rd (rd_L1 x252001 x1) x9)).bind fun t279 => (spec_CloseSlot.l0 k x1 x7 (wrap64 (x9 + 1)) x252000 x252001 x265000 (x265001.set (x10 : Int).toNat t279))) else (none)) else (none)) else (none)) else (none)) else (none)) else (none)))
def spec_CloseSlot.j4 : Nat → Int → List Int → Int → Int → Int → Bool → List Int → List (List Int) → List Int → List (List Int) → Option (List Int × (List (List Int)) × List Int × Bool)
 | 0,_,_,_,_,_,_,_,_,_,_ => none
 | k + 1,x1,x7,x9,x10,x11,x78,x252000,x252001,x265000,x265001 => if x78 = true then (spec_CloseSlot.l1 k x1 x7 x9 (wrap64 (x1 - x11)) (wrap64 (x11 + 1)) x252000 x252001 x265000 x265001) else ((spec_l18Slot.f x252000 x252001 (wrap64 (x1 + x11))).bind fun t286 => (if t286 = true then (if 0 ≤ (wrap64 (x1 + x11)) then (if (wrap64 (x1 + x11)) < (x265001.length : Int) then (if (wrap64 (x1 + x11)) < (x265000.length : Int) then (if ((rd_L1 x265001 (wrap64 (x1 + x11))).length : Int) < (rd x265000 (wrap64 (x1 + x11))) then (spec_CloseSlot.l1 k x1 x7 x9 (wrap64 (x1 + x11)) (wrap64 (x11 + 1)) x252000 x252001 x265000 x265001) else (spec_CloseSlot.l1 k x1 x7 x9 x10 (wrap64 (x11 + 1)) x252000 x252001 x265000 x265001)) else (none)) else (none)) else (none)) else (spec_CloseSlot.l1 k x1 x7 x9 x10 (wrap64 (x11 + 1)) x252000 x252001 x265000 x265001)))
end
def spec_CloseSlot.f (k : Nat) (l0_0 : List Int) (l0_1 : List (List Int)) (a1 : Int) : Option (List Int × (List (List Int)) × List Int × Bool):=(some (([] : List Int) : List Int)).bind fun y253 => ((spec_l18Good.f k l0_0 l0_1).bind fun t256 => (if t256 = true then ((spec_l18Slot.f l0_0 l0_1 a1).bind fun t257 => (spec_CloseSlot.j0 k a1 y253 (!t257) l0_0 l0_1)) else (spec_CloseSlot.j0 k a1 y253 true l0_0 l0_1)))
theorem spec_CloseSlot.mono_l : ∀ k,(∀ y0 y1 y2 y3 y4,LeO (spec_CloseSlot.j0 k y0 y1 y2 y3 y4) (spec_CloseSlot.j0 (k + 1) y0 y1 y2 y3 y4)) ∧ (∀ y0 y1 y2 y3 y4 y5 y6,LeO (spec_CloseSlot.l0 k y0 y1 y2 y3 y4 y5 y6) (spec_CloseSlot.l0 (k + 1) y0 y1 y2 y3 y4 y5 y6)) ∧ (∀ y0 y1 y2 y3 y4 y5 y6 y7 y8,LeO (spec_CloseSlot.l1 k y0 y1 y2 y3 y4 y5 y6 y7 y8) (spec_CloseSlot.l1 (k + 1) y0 y1 y2 y3 y4 y5 y6 y7 y8)) ∧ (∀ y0 y1 y2 y3 y4 y5 y6 y7 y8 y9,LeO (spec_CloseSlot.j3 k y0 y1 y2 y3 y4 y5 y6 y7 y8 y9) (spec_CloseSlot.j3 (k + 1) y0 y1 y2 y3 y4 y5 y6 y7 y8 y9)) ∧ (∀ y0 y1 y2 y3 y4 y5 y6 y7 y8 y9,LeO (spec_CloseSlot.j4 k y0 y1 y2 y3 y4 y5 y6 y7 y8 y9) (spec_CloseSlot.j4 (k + 1) y0 y1 y2 y3 y4 y5 y6 y7 y8 y9))
 | 0 => ⟨fun _ _ _ _ _ r h => by simp [spec_CloseSlot.j0] at h,fun _ _ _ _ _ _ _ r h => by simp [spec_CloseSlot.l0] at h,fun _ _ _ _ _ _ _ _ _ r h => by simp [spec_CloseSlot.l1] at h,fun _ _ _ _ _ _ _ _ _ _ r h => by simp [spec_CloseSlot.j3] at h,fun _ _ _ _ _ _ _ _ _ _ r h => by simp [spec_CloseSlot.j4] at h⟩
 | k + 1 => by
  obtain ⟨ih0,ih1,ih2,ih3,ih4⟩ := spec_CloseSlot.mono_l k;refine ⟨?_, ?_, ?_, ?_, ?_⟩
  ·intro y0 y1 y2 y3 y4
   unfold spec_CloseSlot.j0
   repeat' first
   | (with_reducible exact ih0 _ _ _ _ _)
   | (with_reducible exact ih1 _ _ _ _ _ _ _)
   | (with_reducible exact ih2 _ _ _ _ _ _ _ _ _)
   | (with_reducible exact ih3 _ _ _ _ _ _ _ _ _ _)
   | (with_reducible exact ih4 _ _ _ _ _ _ _ _ _ _)
   | (with_reducible exact spec_l18Good.mono _ _ _)
   | (with_reducible exact spec_l18Own.mono _ _ _)
   | (with_reducible exact spec_l1Put.mono _ _ _)
   | (with_reducible exact LeO.refl _)
   | (with_reducible exact LeO.none _)
   | (with_reducible refine LeO.ite ?_ ?_)
   | (with_reducible refine LeO.bind ?_ (fun _ => ?_))
   | exact ih0 _ _ _ _ _
   | exact ih1 _ _ _ _ _ _ _
   | exact ih2 _ _ _ _ _ _ _ _ _
   | exact ih3 _ _ _ _ _ _ _ _ _ _
   | exact ih4 _ _ _ _ _ _ _ _ _ _
   | exact spec_l18Good.mono _ _ _
   | exact spec_l18Own.mono _ _ _
   | exact spec_l1Put.mono _ _ _
   | exact LeO.none _
   | refine LeO.ite ?_ ?_
   | refine LeO.bind ?_ (fun _ => ?_)
  ·intro y0 y1 y2 y3 y4 y5 y6
   unfold spec_CloseSlot.l0
   repeat' first
   | (with_reducible exact ih0 _ _ _ _ _)
   | (with_reducible exact ih1 _ _ _ _ _ _ _)
   | (with_reducible exact ih2 _ _ _ _ _ _ _ _ _)
   | (with_reducible exact ih3 _ _ _ _ _ _ _ _ _ _)
   | (with_reducible exact ih4 _ _ _ _ _ _ _ _ _ _)
   | (with_reducible exact spec_l18Good.mono _ _ _)
   | (with_reducible exact spec_l18Own.mono _ _ _)
   | (with_reducible exact spec_l1Put.mono _ _ _)
   | (with_reducible exact LeO.refl _)
   | (with_reducible exact LeO.none _)
   | (with_reducible refine LeO.ite ?_ ?_)
   | (with_reducible refine LeO.bind ?_ (fun _ => ?_))
   | exact ih0 _ _ _ _ _
   | exact ih1 _ _ _ _ _ _ _
   | exact ih2 _ _ _ _ _ _ _ _ _
   | exact ih3 _ _ _ _ _ _ _ _ _ _
   | exact ih4 _ _ _ _ _ _ _ _ _ _
   | exact spec_l18Good.mono _ _ _
   | exact spec_l18Own.mono _ _ _
   | exact spec_l1Put.mono _ _ _
   | exact LeO.none _
   | refine LeO.ite ?_ ?_
   | refine LeO.bind ?_ (fun _ => ?_)
  ·intro y0 y1 y2 y3 y4 y5 y6 y7 y8
   unfold spec_CloseSlot.l1
   repeat' first
   | (with_reducible exact ih0 _ _ _ _ _)
   | (with_reducible exact ih1 _ _ _ _ _ _ _)
   | (with_reducible exact ih2 _ _ _ _ _ _ _ _ _)
   | (with_reducible exact ih3 _ _ _ _ _ _ _ _ _ _)
   | (with_reducible exact ih4 _ _ _ _ _ _ _ _ _ _)
   | (with_reducible exact spec_l18Good.mono _ _ _)
   | (with_reducible exact spec_l18Own.mono _ _ _)
   | (with_reducible exact spec_l1Put.mono _ _ _)
   | (with_reducible exact LeO.refl _)
   | (with_reducible exact LeO.none _)
   | (with_reducible refine LeO.ite ?_ ?_)
   | (with_reducible refine LeO.bind ?_ (fun _ => ?_))
   | exact ih0 _ _ _ _ _
   | exact ih1 _ _ _ _ _ _ _
   | exact ih2 _ _ _ _ _ _ _ _ _
   | exact ih3 _ _ _ _ _ _ _ _ _ _
   | exact ih4 _ _ _ _ _ _ _ _ _ _
   | exact spec_l18Good.mono _ _ _
   | exact spec_l18Own.mono _ _ _
   | exact spec_l1Put.mono _ _ _
   | exact LeO.none _
   | refine LeO.ite ?_ ?_
   | refine LeO.bind ?_ (fun _ => ?_)
  ·intro y0 y1 y2 y3 y4 y5 y6 y7 y8 y9
   unfold spec_CloseSlot.j3
   repeat' first
   | (with_reducible exact ih0 _ _ _ _ _)
   | (with_reducible exact ih1 _ _ _ _ _ _ _)
   | (with_reducible exact ih2 _ _ _ _ _ _ _ _ _)
   | (with_reducible exact ih3 _ _ _ _ _ _ _ _ _ _)
   | (with_reducible exact ih4 _ _ _ _ _ _ _ _ _ _)
   | (with_reducible exact spec_l18Good.mono _ _ _)
   | (with_reducible exact spec_l18Own.mono _ _ _)
   | (with_reducible exact spec_l1Put.mono _ _ _)
   | (with_reducible exact LeO.refl _)
   | (with_reducible exact LeO.none _)
   | (with_reducible refine LeO.ite ?_ ?_)
   | (with_reducible refine LeO.bind ?_ (fun _ => ?_))
   | exact ih0 _ _ _ _ _
   | exact ih1 _ _ _ _ _ _ _
   | exact ih2 _ _ _ _ _ _ _ _ _
   | exact ih3 _ _ _ _ _ _ _ _ _ _
   | exact ih4 _ _ _ _ _ _ _ _ _ _
   | exact spec_l18Good.mono _ _ _
   | exact spec_l18Own.mono _ _ _
   | exact spec_l1Put.mono _ _ _
   | exact LeO.none _
   | refine LeO.ite ?_ ?_
   | refine LeO.bind ?_ (fun _ => ?_)
  ·intro y0 y1 y2 y3 y4 y5 y6 y7 y8 y9
   unfold spec_CloseSlot.j4
   repeat' first
   | (with_reducible exact ih0 _ _ _ _ _)
   | (with_reducible exact ih1 _ _ _ _ _ _ _)
   | (with_reducible exact ih2 _ _ _ _ _ _ _ _ _)
   | (with_reducible exact ih3 _ _ _ _ _ _ _ _ _ _)
   | (with_reducible exact ih4 _ _ _ _ _ _ _ _ _ _)
   | (with_reducible exact spec_l18Good.mono _ _ _)
   | (with_reducible exact spec_l18Own.mono _ _ _)
   | (with_reducible exact spec_l1Put.mono _ _ _)
   | (with_reducible exact LeO.refl _)
   | (with_reducible exact LeO.none _)
   | (with_reducible refine LeO.ite ?_ ?_)
   | (with_reducible refine LeO.bind ?_ (fun _ => ?_))
   | exact ih0 _ _ _ _ _
   | exact ih1 _ _ _ _ _ _ _
   | exact ih2 _ _ _ _ _ _ _ _ _
   | exact ih3 _ _ _ _ _ _ _ _ _ _
   | exact ih4 _ _ _ _ _ _ _ _ _ _
   | exact spec_l18Good.mono _ _ _
   | exact spec_l18Own.mono _ _ _
   | exact spec_l1Put.mono _ _ _
   | exact LeO.none _
   | refine LeO.ite ?_ ?_
   | refine LeO.bind ?_ (fun _ => ?_)
theorem spec_CloseSlot.mono : ∀ a0 a1 a2 k,LeO (spec_CloseSlot.f k a0 a1 a2) (spec_CloseSlot.f (k + 1) a0 a1 a2):=by
 intro a0 a1 a2 k;obtain ⟨ih0,ih1,ih2,ih3,ih4⟩ := spec_CloseSlot.mono_l k
 unfold spec_CloseSlot.f
 repeat' first
   | (with_reducible exact ih0 _ _ _ _ _)
   | (with_reducible exact ih1 _ _ _ _ _ _ _)
   | (with_reducible exact ih2 _ _ _ _ _ _ _ _ _)
   | (with_reducible exact ih3 _ _ _ _ _ _ _ _ _ _)
   | (with_reducible exact ih4 _ _ _ _ _ _ _ _ _ _)
   | (with_reducible exact spec_l18Good.mono _ _ _)
   | (with_reducible exact spec_l18Own.mono _ _ _)
   | (with_reducible exact spec_l1Put.mono _ _ _)
   | (with_reducible exact LeO.refl _)
   | (with_reducible exact LeO.none _)
   | (with_reducible refine LeO.ite ?_ ?_)
   | (with_reducible refine LeO.bind ?_ (fun _ => ?_))
   | exact ih0 _ _ _ _ _
   | exact ih1 _ _ _ _ _ _ _
   | exact ih2 _ _ _ _ _ _ _ _ _
   | exact ih3 _ _ _ _ _ _ _ _ _ _
   | exact ih4 _ _ _ _ _ _ _ _ _ _
   | exact spec_l18Good.mono _ _ _
   | exact spec_l18Own.mono _ _ _
   | exact spec_l1Put.mono _ _ _
   | exact LeO.none _
   | refine LeO.ite ?_ ?_
   | refine LeO.bind ?_ (fun _ => ?_)
def spec_CloseSlot.T14 : Bool × List (List Nat × List Nat):=(true,[([],[]),([],[]),([],[]),([1,2],[1,2]),([0,3],[0,3]),([4,4],[4]),([5],[5]),([6,5],[5,6]),([5],[5]),([5],[5]),([8,9,5],[5,8,9]),([7,10,5],[5,7,10]),([11,5],[5,11]),([12,5],[5,12]),([5],[5]),([14,5],[5,14]),([5],[5]),([5],[5]),([16,17,5],[5,16,17]),([15,18,5],[5,15,18]),([19,5],[5,19]),([13,20,5],[5,13,20]),([5,21],[5,21])])
def spec_CloseSlot.B14 : List Nat := [0,0,0,6,15,31,63,127,63,63,831,2047,4095,8191,63,16447,63,63,196671,507967,1032255,2097151,4194303]
theorem spec_CloseSlot.tab14 : rtab .any (opsOf Try.f24 14) = spec_CloseSlot.T14:=by kernel_rfl
theorem spec_CloseSlot.bits14 : waitsOk spec_CloseSlot.T14.2 spec_CloseSlot.B14 = true:=by kernel_rfl
def spec_CloseSlot.T16 : Bool × List (List Nat × List Nat):=(true,[([],[]),([],[]),([],[]),([1,2],[1,2]),([0,3],[0,3]),([4,4],[4]),([5],[5]),([6,5],[5,6]),([5],[5]),([5],[5]),([8,9,5],[5,8,9]),([7,10,5],[5,7,10]),([11,5],[5,11]),([12,5],[5,12]),([5],[5]),([14,5],[5,14]),([5],[5]),([5],[5]),([16,17,5],[5,16,17]),([15,18,5],[5,15,18]),([19,5],[5,19]),([13,20,5],[5,13,20]),([5,21],[5,21])])
def spec_CloseSlot.B16 : List Nat := [0,0,0,6,15,31,63,127,63,63,831,2047,4095,8191,63,16447,63,63,196671,507967,1032255,2097151,4194303]
theorem spec_CloseSlot.tab16 : rtab .any (opsOf Try.f24 16) = spec_CloseSlot.T16:=by kernel_rfl
theorem spec_CloseSlot.bits16 : waitsOk spec_CloseSlot.T16.2 spec_CloseSlot.B16 = true:=by kernel_rfl
def spec_CloseSlot.T20 : Bool × List (List Nat × List Nat):=(true,[([],[]),([0],[0]),([],[]),([],[]),([3],[3]),([],[]),([4,5],[4,5]),([6],[6]),([],[]),([8],[8]),([],[]),([9,10],[9,10]),([11],[11]),([],[]),([12,13],[12,13]),([14],[14]),([7,15],[7,15]),([1,2,0,1,2,3,4,5,6,7,8,9,10,11,12,13,14,15,16],[1,2]),([17,16,16,0,1,2,3,4,5,6,7,8,9,10,11,12,13,14,15,16],[16,17])])
def spec_CloseSlot.B20 : List Nat := [0,1,0,0,8,0,56,120,0,256,0,1792,3840,0,16128,32512,65528,131071,262143]
theorem spec_CloseSlot.tab20 : rtab .any (opsOf Try.f24 20) = spec_CloseSlot.T20:=by kernel_rfl
theorem spec_CloseSlot.bits20 : waitsOk spec_CloseSlot.T20.2 spec_CloseSlot.B20 = true:=by kernel_rfl
set_option maxHeartbeats 8000000 in
set_option maxRecDepth 100000 in
theorem spec_CloseSlot.calls (k : Nat) (A0_0 : Option Addr) (c0_0 : Nat) (l0_0 : List Int) (A0_1 : Option Addr) (c0_1 : Nat) (l0_1 : List (List Int)) (a1 : Int) (r1 : List Int) (r2 : List (List Int)) (r3 : List Int) (r4 : Bool) (w : World) (hr0_0 : Kd.C (Kd.int .i64) w A0_0 l0_0.length l0_0) (hc0_0 : l0_0.length ≤ c0_0) (hr0_1 : Kd.C (Kd.slice 3 (Kd.int .i64)) w A0_1 l0_1.length l0_1) (hc0_1 : l0_1.length ≤ c0_1) (h : spec_CloseSlot.f k l0_0 l0_1 a1 = some (r1,r2,r3,r4)) :
  Calls Try.prog 24 #[.agg #[.slice A0_0 l0_0.length c0_0, .slice A0_1 l0_1.length c0_1], .int .i64 a1] w fun e w' => ∃ v0_ v1_ v2_ : Value,e = .returned (.tuple #[.agg #[v0_,v1_],v2_, .bool r4]) ∧ Kd.R (Kd.int .i64) 3 w' w.heap.size (fun k_ => (w.heap.size ≤ k_) ∧ some k_ ≠ (v2_ : Value).ownBlock) v0_ r1 ∧ Kd.N (Kd.slice 3 (Kd.int .i64)) 24 w' w.heap.size (fun k_ => (w.heap.size ≤ k_) ∧ some k_ ≠ (v0_ : Value).ownBlock ∧ some k_ ≠ (v2_ : Value).ownBlock) v1_ r2 ∧ Kd.R (Kd.int .i64) 3 w' w.heap.size (fun k_ => (w.heap.size ≤ k_) ∧ some k_ ≠ (v0_ : Value).ownBlock) v2_ r3 ∧ Below w.heap.size w w':=by
 have hu27:=Try.underlying27;have HR0_0:=am_ hr0_0;have HC0_0:=am_ hc0_0;clear hr0_0 hc0_0;have HR0_1:=am_ hr0_1;have HC0_1:=am_ hc0_1;clear hr0_1 hc0_1;have HB:=am_ (Below.refl w.heap.size w);have H : ((some (([] : List Int) : List Int)).bind fun y253 => ((spec_l18Good.f k l0_0 l0_1).bind fun t256 => (if t256 = true then ((spec_l18Slot.f l0_0 l0_1 a1).bind fun t257 => (spec_CloseSlot.j0 k a1 y253 (!t257) l0_0 l0_1)) else (spec_CloseSlot.j0 k a1 y253 true l0_0 l0_1)))) = some (r1,r2,r3,r4):=h;clear h;obtain ⟨y253,hy253⟩ : ∃ y_ : List Int,y_ = (([] : List Int)):=⟨_,rfl⟩
 replace H : ((spec_l18Good.f k l0_0 l0_1).bind fun t256 => (if t256 = true then ((spec_l18Slot.f l0_0 l0_1 a1).bind fun t257 => (spec_CloseSlot.j0 k a1 y253 (!t257) l0_0 l0_1)) else (spec_CloseSlot.j0 k a1 y253 true l0_0 l0_1))) = some (r1,r2,r3,r4):=by first | (rw [hy253];with_reducible exact H) | (have H2_:=(Option.bind_some _ _).symm.trans H;rw [hy253];with_reducible exact H2_) | (have H2_:=(Option.bind_some _ _).symm.trans H;with_reducible exact H2_) | with_reducible exact H | (rw [hy253];exact H) | exact H
 have Ny253:=am_ hy253;clear hy253;have HC3:=am_ H;clear H
 go_enter Try.func24,Try.ntmps24
 go_upto_region 2 with (first | ((with_reducible refine gate_dst (N:=2) rfl ?_);(try (refine gate_guard (by rfl) ?_;dsimp only));refine box_event ?hg (N:=2) ?hd (cs:=#[.slice A0_0 l0_0.length c0_0, .slice A0_1 l0_1.length c0_1]) (t:=27) ?hr ?_;(case hd => rfl);(case hg => rfl);(case hr => first | (go_simp;done) | (go_simp;rfl));intro gb251 hg w4 hbox hb;have n0_:=am_ (below_step (by repeat (first | (with_reducible first | exact HB.out | apply below_alloc | apply pw_below_drewN | apply below_drew1) | exact HB.out)) hb);have n1_:=am_ hbox;have n2_:=am_ ((by rw [hg];exact (below_size (by repeat (first | (with_reducible first | exact HB.out | apply below_alloc | apply pw_below_drewN | apply below_drew1) | exact HB.out))) : w.heap.size ≤ gb251));have n3_:=am_ ((by rw [hg];exact (below_size (by repeat (first | (with_reducible first | exact HB.out | apply below_alloc | apply pw_below_drewN | apply below_drew1) | exact HB.out))) : w.heap.size ≤ gb251));clear HB;have HB:=n0_;have BK251:=n1_;have GW251:=n2_;have GE251:=n3_;clear n0_ n1_ n2_ n3_;clear hb hbox hg) | ((with_reducible refine gate_dst (N:=4) rfl ?_);(try (refine gate_guard (by rfl) ?_;dsimp only));refine box_event ?hg (N:=4) ?hd (cs:=#[.slice none 0 0, .slice none 0 0]) (t:=27) ?hr ?_;(case hd => rfl);(case hg => rfl);(case hr => first | (go_simp;done) | (go_simp;rfl));intro gb252 hg w5 hbox hb;have n0_:=am_ (blk_below (g:=gb251) (o := .cells #[.slice A0_0 l0_0.length c0_0, .slice A0_1 l0_1.length c0_1] 27 (0,0)) (by (with_reducible repeat (first | refine blk_drewN ?_ _ | refine blk_drew ?_ | refine blk_alloc ?_ _));exact BK251.out) hb);have n1_:=am_ (below_step (by repeat (first | (with_reducible first | exact HB.out | apply below_alloc | apply pw_below_drewN | apply below_drew1 | refine below_set ?_ GE251.out) | exact HB.out)) hb);have n2_:=am_ hbox;have n3_:=am_ ((by rw [hg];exact (below_size (by repeat (first | (with_reducible first | exact HB.out | apply below_alloc | apply pw_below_drewN | apply below_drew1 | refine below_set ?_ GE251.out) | exact HB.out))) : w.heap.size ≤ gb252));have n4_:=am_ ((by rw [hg];exact (below_size (by repeat (first | (with_reducible first | exact HB.out | apply below_alloc | apply pw_below_drewN | apply below_drew1 | refine below_set ?_ GE251.out) | exact HB.out))) : w.heap.size ≤ gb252));have n5_:=am_ ((by rw [hg];exact Nat.ne_of_lt (blk_lt (g:=gb251) (o := .cells #[.slice A0_0 l0_0.length c0_0, .slice A0_1 l0_1.length c0_1] 27 (0,0)) (by (with_reducible repeat (first | refine blk_drewN ?_ _ | refine blk_drew ?_ | refine blk_alloc ?_ _));exact BK251.out)) : gb251 ≠ gb252));have n6_:=am_ ((by rw [hg];exact Nat.ne_of_gt (blk_lt (g:=gb251) (o := .cells #[.slice A0_0 l0_0.length c0_0, .slice A0_1 l0_1.length c0_1] 27 (0,0)) (by (with_reducible repeat (first | refine blk_drewN ?_ _ | refine blk_drew ?_ | refine blk_alloc ?_ _));exact BK251.out)) : gb252 ≠ gb251));clear BK251;clear HB;have BK251:=n0_;have HB:=n1_;have BK252:=n2_;have GW252:=n3_;have GE252:=n4_;have NB251_252:=n5_;have NB252_251:=n6_;clear n0_ n1_ n2_ n3_ n4_ n5_ n6_;clear hb hbox hg) | ((with_reducible refine gate_dst (N:=12) rfl ?_);(try (refine gate_guard (by rfl) ?_;dsimp only));refine Kd.R_lit (Kd.int .i64) _ 3 ?hg (N:=12) ?hd (xs:=([] : List Int)) (inner := []) (ok:=fun _ => True) (okp:=fun _ => True) ?hr ?hp (fun _ hk => hk) trivial (Below.refl _ _) (Nat.le_refl _) (by simp) ?_;(case hd => rfl);(case hg => rfl);(case hr => first | (go_simp;done) | (go_simp;rfl));(case hp => exact (Reps.none _ _));intro v254 w6 ho7 hb hg_ hnew_;clear hg_ hnew_;(first | rw [← Ny253.out] at ho7 | (simp only [Int.reduceToNat] at ho7;rw [← Ny253.out] at ho7));have n0_:=am_ (Kd.R_lower (Kd.R_newM (M:=fun k_ => (w.heap.size ≤ k_)) ho7 (below_size (by repeat (first | (with_reducible first | exact HB.out | apply below_alloc | apply pw_below_drewN | apply below_drew1 | refine below_set ?_ GE251.out | refine below_set ?_ GE252.out) | exact HB.out))) (fun k_ h_ => h_)) (below_size (by repeat (first | (with_reducible first | exact HB.out | apply below_alloc | apply pw_below_drewN | apply below_drew1 | refine below_set ?_ GE251.out | refine below_set ?_ GE252.out) | exact HB.out))));have n1_:=am_ (blk_below (g:=gb251) (o := .cells #[.slice A0_0 l0_0.length c0_0, .slice A0_1 l0_1.length c0_1] 27 (0,0)) (by (with_reducible repeat (first | refine blk_drewN ?_ _ | refine blk_drew ?_ | refine blk_alloc ?_ _));exact BK251.out) hb);have n2_:=am_ (blk_below (g:=gb252) (o := .cells #[.slice none 0 0, .slice none 0 0] 27 (0,0)) (by (with_reducible repeat (first | refine blk_drewN ?_ _ | refine blk_drew ?_ | refine blk_alloc ?_ _));exact BK252.out) hb);have n3_:=am_ (below_step (by repeat (first | (with_reducible first | exact HB.out | apply below_alloc | apply pw_below_drewN | apply below_drew1 | refine below_set ?_ GE251.out | refine below_set ?_ GE252.out) | exact HB.out)) hb);clear BK251;clear BK252;clear HB;have HO255:=n0_;have BK251:=n1_;have BK252:=n2_;have HB:=n3_;clear n0_ n1_ n2_ n3_;clear hb ho7))
 (try simp only [Act.put,sA_,s0_,s1_])
 go_cut [21] (fun v21 wc => ∃ (kq : Nat) (x21_2 : Bool),v21 = .bool x21_2 ∧ Aside0 (spec_CloseSlot.j0 kq a1 y253 x21_2 l0_0 l0_1 = some (r1,r2,r3,r4)) ∧ Aside0 (kq ≤ k) ∧ Aside0 (Kd.R (Kd.int .i64) 3 wc w.heap.size (fun k_ => (w.heap.size ≤ k_)) v254 y253) ∧ Aside0 (wc.heap[gb251]? = some (.cells #[(.slice A0_0 l0_0.length c0_0),(.slice A0_1 l0_1.length c0_1)] 27 (0,0))) ∧ Aside0 (wc.heap[gb252]? = some (.cells #[(.slice none 0 0),(.slice none 0 0)] 27 (0,0))) ∧ Aside0 (Below w.heap.size w wc))
 case first =>
  have H:=HC3.out;clear HC3;replace H:=Option.bind_eq_some_iff.mp H;obtain ⟨t256,A80,H⟩ := H;replace H : (if t256 = true then ((spec_l18Slot.f l0_0 l0_1 a1).bind fun t257 => (spec_CloseSlot.j0 k a1 y253 (!t257) l0_0 l0_1)) else (spec_CloseSlot.j0 k a1 y253 true l0_0 l0_1)) = some (r1,r2,r3,r4):=H;have A8:=am_ A80;clear A80
  by_cases c9 : t256 = true
  ·subst c9
   have H1 : ((spec_l18Slot.f l0_0 l0_1 a1).bind fun t257 => (spec_CloseSlot.j0 k a1 y253 (!t257) l0_0 l0_1)) = some (r1,r2,r3,r4):=by rw [if_pos rfl] at H;exact H
   clear H;have H:=H1;clear H1;replace H:=Option.bind_eq_some_iff.mp H;obtain ⟨t257,A100,H⟩ := H;replace H : (spec_CloseSlot.j0 k a1 y253 (!t257) l0_0 l0_1) = some (r1,r2,r3,r4):=H;have A10:=am_ A100;clear A100;have H':=am_ H;clear H;have hnb11:=NB251_252.out;have hnc11:=NB252_251.out;have hcz12_0:=c2_0 BK251.out;have hcz12_1:=c2_1 BK251.out;have hfz12_0:=blk_frozen BK251.out 0;have hfz12_1:=blk_frozen BK251.out 1
   go_wp2_with (first | ((with_reducible refine gate_callee (f:=46) rfl ?_);refine goesL_ (some 14) rfl rfl Try.func46 (by kernel_rfl) rfl #[.agg #[.slice A0_0 l0_0.length c0_0, .slice A0_1 l0_1.length c0_1]] rfl (by (try simp only [List.map_toArray,List.map_cons,List.map_nil]);first | done | rfl | (simp only [List.length_drop,List.length_take];rfl)) ?_;(with_reducible refine (spec_l18Good.calls k _ _ l0_0 _ _ l0_1 true _ ?side1 ?side2 ?side3 ?side4 A8.out).mono ?_);(case side1 => repeat (first | exact (Kd.C_below HR0_0.out HB.out) | (with_reducible refine Kd.C_alloc ?_ _) | (with_reducible refine Kd.C_drewN ?_ _) | (with_reducible refine Kd.C_drew ?_)));(case side2 => exact HC0_0.out);(case side3 => repeat (first | exact (Kd.C_below HR0_1.out HB.out) | (with_reducible refine Kd.C_alloc ?_ _) | (with_reducible refine Kd.C_drewN ?_ _) | (with_reducible refine Kd.C_drew ?_)));(case side4 => exact HC0_1.out);rintro e w13 ⟨rfl,hb⟩;refine ⟨_,rfl, ?_⟩;have n0_:=am_ (Kd.R_below (by (with_reducible repeat (first | apply Kd.R_alloc | apply Kd.R_drewN | apply Kd.R_drew));exact HO255.out) hb);have n1_:=am_ (blk_below (g:=gb251) (o := .cells #[.slice A0_0 l0_0.length c0_0, .slice A0_1 l0_1.length c0_1] 27 (0,0)) (by (with_reducible repeat (first | refine blk_drewN ?_ _ | refine blk_drew ?_ | refine blk_alloc ?_ _));exact BK251.out) hb);have n2_:=am_ (blk_below (g:=gb252) (o := .cells #[.slice none 0 0, .slice none 0 0] 27 (0,0)) (by (with_reducible repeat (first | refine blk_drewN ?_ _ | refine blk_drew ?_ | refine blk_alloc ?_ _));exact BK252.out) hb);have n3_:=am_ (below_step (by repeat (first | (with_reducible first | exact HB.out | apply below_alloc | apply pw_below_drewN | apply below_drew1 | refine below_set ?_ GE251.out | refine below_set ?_ GE252.out) | exact HB.out)) hb);clear HO255;clear BK251;clear BK252;clear HB;have HO255:=n0_;have BK251:=n1_;have BK252:=n2_;have HB:=n3_;clear n0_ n1_ n2_ n3_;(try clear hb);(try clear hb2);(try clear hk);(try clear hi);have hcz14_0:=c2_0 BK251.out;have hcz14_1:=c2_1 BK251.out;have hfz14_0:=blk_frozen BK251.out 0;have hfz14_1:=blk_frozen BK251.out 1) | (go_at_call 47;(with_reducible refine (spec_l18Slot.calls _ _ l0_0 _ _ l0_1 a1 t257 _ ?side1 ?side2 ?side3 ?side4 A10.out).mono ?_);(case side1 => repeat (first | exact (Kd.C_below HR0_0.out HB.out) | (with_reducible refine Kd.C_alloc ?_ _) | (with_reducible refine Kd.C_drewN ?_ _) | (with_reducible refine Kd.C_drew ?_)));(case side2 => exact HC0_0.out);(case side3 => repeat (first | exact (Kd.C_below HR0_1.out HB.out) | (with_reducible refine Kd.C_alloc ?_ _) | (with_reducible refine Kd.C_drewN ?_ _) | (with_reducible refine Kd.C_drew ?_)));(case side4 => exact HC0_1.out);rintro e w15 ⟨rfl,hb⟩;have n0_:=am_ (Kd.R_below (by (with_reducible repeat (first | apply Kd.R_alloc | apply Kd.R_drewN | apply Kd.R_drew));exact HO255.out) hb);have n1_:=am_ (blk_below (g:=gb251) (o := .cells #[.slice A0_0 l0_0.length c0_0, .slice A0_1 l0_1.length c0_1] 27 (0,0)) (by (with_reducible repeat (first | refine blk_drewN ?_ _ | refine blk_drew ?_ | refine blk_alloc ?_ _));exact BK251.out) hb);have n2_:=am_ (blk_below (g:=gb252) (o := .cells #[.slice none 0 0, .slice none 0 0] 27 (0,0)) (by (with_reducible repeat (first | refine blk_drewN ?_ _ | refine blk_drew ?_ | refine blk_alloc ?_ _));exact BK252.out) hb);have n3_:=am_ (below_step (by repeat (first | (with_reducible first | exact HB.out | apply below_alloc | apply pw_below_drewN | apply below_drew1 | refine below_set ?_ GE251.out | refine below_set ?_ GE252.out) | exact HB.out)) hb);clear HO255;clear BK251;clear BK252;clear HB;have HO255:=n0_;have BK251:=n1_;have BK252:=n2_;have HB:=n3_;clear n0_ n1_ n2_ n3_;(try clear hb);(try clear hb2);(try clear hk);(try clear hi)))
   go_meet
   case rel => exact ⟨_,(!t257),(by first | rfl | (simp;done) | (simp [*];done)),H',⟨by first | omega | exact Nat.le_refl _⟩,⟨by (with_reducible repeat (first | apply Kd.R_alloc | apply Kd.R_drewN | apply Kd.R_drew));exact Kd.R_mono HO255.out (fun _ hk => hk.1)⟩,⟨by (with_reducible repeat (first | refine blk_drewN ?_ _ | refine blk_drew ?_ | refine blk_alloc ?_ _));exact BK251.out⟩,⟨by (with_reducible repeat (first | refine blk_drewN ?_ _ | refine blk_drew ?_ | refine blk_alloc ?_ _));exact BK252.out⟩,⟨by repeat (first | (with_reducible first | exact HB.out | apply below_alloc | apply pw_below_drewN | apply below_drew1 | refine below_set ?_ GE251.out | refine below_set ?_ GE252.out) | exact HB.out)⟩⟩
  ·replace c9:=Bool.eq_false_iff.mpr c9;subst c9
   have H1 : (spec_CloseSlot.j0 k a1 y253 true l0_0 l0_1) = some (r1,r2,r3,r4):=by rw [if_neg (show ¬ (false = true) by decide)] at H;exact H
   clear H;have H:=H1;clear H1;have H':=am_ H;clear H;have hnb16:=NB251_252.out;have hnc16:=NB252_251.out;have hcz17_0:=c2_0 BK251.out;have hcz17_1:=c2_1 BK251.out;have hfz17_0:=blk_frozen BK251.out 0;have hfz17_1:=blk_frozen BK251.out 1
   go_wp2_with (first | ((with_reducible refine gate_callee (f:=46) rfl ?_);refine goesL_ (some 14) rfl rfl Try.func46 (by kernel_rfl) rfl #[.agg #[.slice A0_0 l0_0.length c0_0, .slice A0_1 l0_1.length c0_1]] rfl (by (try simp only [List.map_toArray,List.map_cons,List.map_nil]);first | done | rfl | (simp only [List.length_drop,List.length_take];rfl)) ?_;(with_reducible refine (spec_l18Good.calls k _ _ l0_0 _ _ l0_1 false _ ?side1 ?side2 ?side3 ?side4 A8.out).mono ?_);(case side1 => repeat (first | exact (Kd.C_below HR0_0.out HB.out) | (with_reducible refine Kd.C_alloc ?_ _) | (with_reducible refine Kd.C_drewN ?_ _) | (with_reducible refine Kd.C_drew ?_)));(case side2 => exact HC0_0.out);(case side3 => repeat (first | exact (Kd.C_below HR0_1.out HB.out) | (with_reducible refine Kd.C_alloc ?_ _) | (with_reducible refine Kd.C_drewN ?_ _) | (with_reducible refine Kd.C_drew ?_)));(case side4 => exact HC0_1.out);rintro e w18 ⟨rfl,hb⟩;refine ⟨_,rfl, ?_⟩;have n0_:=am_ (Kd.R_below (by (with_reducible repeat (first | apply Kd.R_alloc | apply Kd.R_drewN | apply Kd.R_drew));exact HO255.out) hb);have n1_:=am_ (blk_below (g:=gb251) (o := .cells #[.slice A0_0 l0_0.length c0_0, .slice A0_1 l0_1.length c0_1] 27 (0,0)) (by (with_reducible repeat (first | refine blk_drewN ?_ _ | refine blk_drew ?_ | refine blk_alloc ?_ _));exact BK251.out) hb);have n2_:=am_ (blk_below (g:=gb252) (o := .cells #[.slice none 0 0, .slice none 0 0] 27 (0,0)) (by (with_reducible repeat (first | refine blk_drewN ?_ _ | refine blk_drew ?_ | refine blk_alloc ?_ _));exact BK252.out) hb);have n3_:=am_ (below_step (by repeat (first | (with_reducible first | exact HB.out | apply below_alloc | apply pw_below_drewN | apply below_drew1 | refine below_set ?_ GE251.out | refine below_set ?_ GE252.out) | exact HB.out)) hb);clear HO255;clear BK251;clear BK252;clear HB;have HO255:=n0_;have BK251:=n1_;have BK252:=n2_;have HB:=n3_;clear n0_ n1_ n2_ n3_;(try clear hb);(try clear hb2);(try clear hk);(try clear hi)))
   go_meet
   case rel => exact ⟨_,(true),(by first | rfl | (simp;done) | (simp [*];done)),H',⟨by first | omega | exact Nat.le_refl _⟩,⟨by (with_reducible repeat (first | apply Kd.R_alloc | apply Kd.R_drewN | apply Kd.R_drew));exact Kd.R_mono HO255.out (fun _ hk => hk.1)⟩,⟨by (with_reducible repeat (first | refine blk_drewN ?_ _ | refine blk_drew ?_ | refine blk_alloc ?_ _));exact BK251.out⟩,⟨by (with_reducible repeat (first | refine blk_drewN ?_ _ | refine blk_drew ?_ | refine blk_alloc ?_ _));exact BK252.out⟩,⟨by repeat (first | (with_reducible first | exact HB.out | apply below_alloc | apply pw_below_drewN | apply below_drew1 | refine below_set ?_ GE251.out | refine below_set ?_ GE252.out) | exact HB.out)⟩⟩
 case rest =>
  clear HC3;(try clear c1);(try clear c2);(try clear p2);(try clear c4);(try clear c9);(try clear c11);(try clear c16);(try clear hcz12_0);(try clear hcz12_1);(try clear hcz14_0);(try clear hcz14_1);(try clear hcz17_0);(try clear hcz17_1);(try clear hfz12_0);(try clear hfz12_1);(try clear hfz14_0);(try clear hfz14_1);(try clear hfz17_0);(try clear hfz17_1);obtain ⟨kq,x21_2,rfl,HA,HJ2,HO_7,BK251,BK252,HB⟩ := hcut
  cases kq with
  | zero => exact absurd HA.out (by simp [spec_CloseSlot.j0])
  | succ kj2 =>
   have H:=HA.out;clear HA;simp only [spec_CloseSlot.j0] at H
   by_cases c19 : x21_2 = true
   ·subst c19
    have H1 : (some (([] : List Int),([] : List (List Int)),y253,false)) = some (r1,r2,r3,r4):=by rw [if_pos rfl] at H;exact H
    clear H;have H:=H1;clear H1;simp only [Option.some.injEq,Prod.mk.injEq] at H;obtain ⟨rfl,rfl,rfl,rfl⟩ := H;have hnb20:=NB252_251.out;have hnc20:=NB251_252.out;have hcz21_0:=c2_0 BK252.out;have hcz21_1:=c2_1 BK252.out;have hfz21_0:=blk_frozen BK252.out 0;have hfz21_1:=blk_frozen BK252.out 1
    go_wp2
    refine bodyPost_ret (results_ctt rfl _ _ gb252 27 #[.slice none 0 0, .slice none 0 0] (0,0) _ rfl (by (with_reducible repeat (first | refine blk_drewN ?_ _ | refine blk_drew ?_ | refine blk_alloc ?_ _));refine blk_put (cs:=#[.slice none 0 0, .slice none 0 0]) ?_ 1 _ rfl;(with_reducible repeat (first | refine blk_drewN ?_ _ | refine blk_drew ?_ | refine blk_alloc ?_ _));refine blk_put (cs:=#[.slice none 0 0, .slice none 0 0]) ?_ 0 _ rfl;(with_reducible repeat (first | refine blk_drewN ?_ _ | refine blk_drew ?_ | refine blk_alloc ?_ _));exact BK252.out) Try.underlying27 rfl (by kernel_rfl)) rfl ?_
    exact ⟨_,_,_,by first | rfl | (simp [errW_none,errW_some] <;> rfl) | (simp [*,errW_none,errW_some] <;> rfl),by first | exact Kd.R_nil _ _ _ _ _ | exact Kd.N_nil _ _ _ _ _ | exact Kd.V_nil _ _ _ _ _ | exact Kd.Q_nil _ _ _ _ _ | exact Kd.S_nil _ _ _ _ _,by first | exact Kd.S_nil _ _ _ _ _ | exact Kd.N_nil _ _ _ _ _ | exact Kd.V_nil _ _ _ _ _ | exact Kd.Q_nil _ _ _ _ _ | exact Kd.R_nil _ _ _ _ _,by (with_reducible repeat (first | apply Kd.R_alloc | apply Kd.R_drewN | apply Kd.R_drew));exact Kd.R_mono (rf2_ (Kd.R_types HO_7.out BK252.out (by decide)) (.slice none 0 0) (.slice none 0 0)) (fun _ hk => ⟨hk.1,(by simp [Value.ownBlock])⟩),by repeat (first | (with_reducible first | exact HB.out | apply below_alloc | apply pw_below_drewN | apply below_drew1 | refine below_set ?_ GE251.out | refine below_set ?_ GE252.out) | exact HB.out)⟩
   ·replace c19:=Bool.eq_false_iff.mpr c19;subst c19
    have H1 : ((spec_l18Own.f kj2 l0_0 l0_1).bind fun bt258 => (if 0 ≤ a1 then (if a1 < (bt258.1.length : Int) then (if a1 < (bt258.2.length : Int) then (spec_CloseSlot.l0 kj2 a1 y253 0 l0_0 l0_1 (bt258.1.set (a1 : Int).toNat 0) (bt258.2.set (a1 : Int).toNat (([] : List Int)))) else (none)) else (none)) else (none))) = some (r1,r2,r3,r4):=by rw [if_neg (show ¬ (false = true) by decide)] at H;exact H
    clear H;have H:=H1;clear H1;replace H:=Option.bind_eq_some_iff.mp H;obtain ⟨⟨t258,t261⟩,A220,H⟩ := H;replace H : (if 0 ≤ a1 then (if a1 < (t258.length : Int) then (if a1 < (t261.length : Int) then (spec_CloseSlot.l0 kj2 a1 y253 0 l0_0 l0_1 (t258.set (a1 : Int).toNat 0) (t261.set (a1 : Int).toNat (([] : List Int)))) else (none)) else (none)) else (none)) = some (r1,r2,r3,r4):=H;have A22:=am_ A220;clear A220
    by_cases c23 : 0 ≤ a1
    ·rw [if_pos c23] at H;have c23b0 : decide (0 ≤ a1) = true:=decide_eq_true c23;clear c23
     by_cases c24 : a1 < (t258.length : Int)
     ·rw [if_pos c24] at H;have c24b0 : decide (a1 < (t258.length : Int)) = true:=decide_eq_true c24;clear c24;obtain ⟨y265,hy265⟩ : ∃ y_ : List Int,y_ = (t258.set (a1 : Int).toNat 0):=⟨_,rfl⟩
      replace H : (if a1 < (t261.length : Int) then (spec_CloseSlot.l0 kj2 a1 y253 0 l0_0 l0_1 y265 (t261.set (a1 : Int).toNat (([] : List Int)))) else (none)) = some (r1,r2,r3,r4):=by first | (rw [hy265];with_reducible exact H) | (have H2_:=(Option.bind_some _ _).symm.trans H;rw [hy265];with_reducible exact H2_) | (have H2_:=(Option.bind_some _ _).symm.trans H;with_reducible exact H2_) | with_reducible exact H | (rw [hy265];exact H) | exact H
      have Ny265:=am_ hy265;clear hy265;obtain ⟨y266,hy266⟩ : ∃ y_ : List Int,y_ = (([] : List Int)):=⟨_,rfl⟩
      replace H : (if a1 < (t261.length : Int) then (spec_CloseSlot.l0 kj2 a1 y253 0 l0_0 l0_1 y265 (t261.set (a1 : Int).toNat y266)) else (none)) = some (r1,r2,r3,r4):=by first | (rw [hy266];with_reducible exact H) | (have H2_:=(Option.bind_some _ _).symm.trans H;rw [hy266];with_reducible exact H2_) | (have H2_:=(Option.bind_some _ _).symm.trans H;with_reducible exact H2_) | with_reducible exact H | (rw [hy266];exact H) | exact H
      have Ny266:=am_ hy266;clear hy266
      by_cases c26 : a1 < (t261.length : Int)
      ·rw [if_pos c26] at H;have c26b0 : decide (a1 < (t261.length : Int)) = true:=decide_eq_true c26;clear c26;obtain ⟨y269,hy269⟩ : ∃ y_ : List (List Int),y_ = (t261.set (a1 : Int).toNat y266):=⟨_,rfl⟩
       replace H : (spec_CloseSlot.l0 kj2 a1 y253 0 l0_0 l0_1 y265 y269) = some (r1,r2,r3,r4):=by first | (rw [hy269];with_reducible exact H) | (have H2_:=(Option.bind_some _ _).symm.trans H;rw [hy269];with_reducible exact H2_) | (have H2_:=(Option.bind_some _ _).symm.trans H;with_reducible exact H2_) | with_reducible exact H | (rw [hy269];exact H) | exact H
       have Ny269:=am_ hy269;clear hy269;have H':=am_ H;clear H;have hnb28:=NB251_252.out;have hnc28:=NB252_251.out;have hcz29_0:=c2_0 BK251.out;have hcz29_1:=c2_1 BK251.out;have hfz29_0:=blk_frozen BK251.out 0;have hfz29_1:=blk_frozen BK251.out 1
       go_wp2_with (first | ((with_reducible refine gate_callee (f:=57) rfl ?_);refine goesL_ (some 25) rfl rfl Try.func57 (by kernel_rfl) rfl #[.agg #[.slice A0_0 l0_0.length c0_0, .slice A0_1 l0_1.length c0_1]] rfl (by (try simp only [List.map_toArray,List.map_cons,List.map_nil]);first | done | rfl | (simp only [List.length_drop,List.length_take];rfl)) ?_;(with_reducible refine (spec_l18Own.calls kj2 _ _ l0_0 _ _ l0_1 t258 t261 _ ?side1 ?side2 ?side3 ?side4 A22.out).mono ?_);(case side1 => repeat (first | exact (Kd.C_below HR0_0.out HB.out) | (with_reducible refine Kd.C_alloc ?_ _) | (with_reducible refine Kd.C_drewN ?_ _) | (with_reducible refine Kd.C_drew ?_)));(case side2 => exact HC0_0.out);(case side3 => repeat (first | exact (Kd.C_below HR0_1.out HB.out) | (with_reducible refine Kd.C_alloc ?_ _) | (with_reducible refine Kd.C_drewN ?_ _) | (with_reducible refine Kd.C_drew ?_)));(case side4 => exact HC0_1.out);rintro e w30 ⟨v259,v262,rfl,ho0,ho1,hb⟩;refine ⟨_,rfl, ?_⟩;have n0_:=am_ (Kd.R_elder' (by (with_reducible repeat (first | apply Kd.R_alloc | apply Kd.R_drewN | apply Kd.R_drew));exact HO_7.out) (Kd.R_base ho0) hb);have n1_:=am_ (Kd.R_lower (Kd.R_new' (Kd.R_newM (M:=fun k_ => (w.heap.size ≤ k_)) ho0 (below_size (by repeat (first | (with_reducible first | exact HB.out | apply below_alloc | apply pw_below_drewN | apply below_drew1 | refine below_set ?_ GE251.out | refine below_set ?_ GE252.out) | exact HB.out))) (fun k_ h_ => h_)) (Kd.R_lt (by (with_reducible repeat (first | apply Kd.R_alloc | apply Kd.R_drewN | apply Kd.R_drew));exact HO_7.out))) (below_size (by repeat (first | (with_reducible first | exact HB.out | apply below_alloc | apply pw_below_drewN | apply below_drew1 | refine below_set ?_ GE251.out | refine below_set ?_ GE252.out) | exact HB.out))));have n2_:=am_ (Kd.N_lower (Kd.N_mono (ok':=fun k_ => (w.heap.size ≤ k_) ∧ some k_ ≠ (v259 : Value).ownBlock ∧ some k_ ≠ (v254 : Value).ownBlock ∧ k_ ≠ gb251 ∧ k_ ≠ gb252) (Kd.S_N (Kd.S_bound ho1)) (fun k_ hk_ => ⟨(Nat.le_trans (below_size (by repeat (first | (with_reducible first | exact HB.out | apply below_alloc | apply pw_below_drewN | apply below_drew1 | refine below_set ?_ GE251.out | refine below_set ?_ GE252.out) | exact HB.out))) hk_.2.1),hk_.1,(Kd.fresh' (Kd.R_lt (by (with_reducible repeat (first | apply Kd.R_alloc | apply Kd.R_drewN | apply Kd.R_drew));exact HO_7.out)) k_ hk_.2.1),(Kd.freshB (g:=gb251) (o := .cells #[.slice A0_0 l0_0.length c0_0, .slice A0_1 l0_1.length c0_1] 27 (0,0)) (by (with_reducible repeat (first | refine blk_drewN ?_ _ | refine blk_drew ?_ | refine blk_alloc ?_ _));exact BK251.out) k_ hk_.2.1),(Kd.freshB (g:=gb252) (o := .cells #[.slice none 0 0, .slice none 0 0] 27 (0,0)) (by (with_reducible repeat (first | refine blk_drewN ?_ _ | refine blk_drew ?_ | refine blk_alloc ?_ _));exact BK252.out) k_ hk_.2.1)⟩)) (below_size (by repeat (first | (with_reducible first | exact HB.out | apply below_alloc | apply pw_below_drewN | apply below_drew1 | refine below_set ?_ GE251.out | refine below_set ?_ GE252.out) | exact HB.out))));have n3_:=am_ (blk_below (g:=gb251) (o := .cells #[.slice A0_0 l0_0.length c0_0, .slice A0_1 l0_1.length c0_1] 27 (0,0)) (by (with_reducible repeat (first | refine blk_drewN ?_ _ | refine blk_drew ?_ | refine blk_alloc ?_ _));exact BK251.out) hb);have n4_:=am_ (blk_below (g:=gb252) (o := .cells #[.slice none 0 0, .slice none 0 0] 27 (0,0)) (by (with_reducible repeat (first | refine blk_drewN ?_ _ | refine blk_drew ?_ | refine blk_alloc ?_ _));exact BK252.out) hb);have n5_:=am_ (below_step (by repeat (first | (with_reducible first | exact HB.out | apply below_alloc | apply pw_below_drewN | apply below_drew1 | refine below_set ?_ GE251.out | refine below_set ?_ GE252.out) | exact HB.out)) hb);clear HO_7;clear BK251;clear BK252;clear HB;have HO_7:=n0_;have HO260:=n1_;have HO263:=n2_;have BK251:=n3_;have BK252:=n4_;have HB:=n5_;clear n0_ n1_ n2_ n3_ n4_ n5_;(try clear hb);(try clear hb2);(try clear hk);(try clear hi);(try clear ho0);(try clear ho1)) | ((with_reducible refine gate_dst (N:=8) rfl ?_);(try (refine gate_guard (by rfl) ?_;dsimp only));refine box_event ?hg (N:=8) ?hd (cs:=#[.slice none 0 0, .slice none 0 0]) (t:=27) ?hr ?_;(case hd => rfl);(case hg => rfl);(case hr => first | (go_simp;done) | (go_simp;rfl));intro gb264 hg w31 hbox hb;have n0_:=am_ (Kd.R_below (by (with_reducible repeat (first | apply Kd.R_alloc | apply Kd.R_drewN | apply Kd.R_drew));exact HO_7.out) hb);have n1_:=am_ (Kd.R_below (by (with_reducible repeat (first | apply Kd.R_alloc | apply Kd.R_drewN | apply Kd.R_drew));exact HO260.out) hb);have n2_:=am_ (Kd.N_below (Kd.N_elderB (by (with_reducible repeat (first | apply Kd.N_alloc | apply Kd.N_drewN | apply Kd.N_drew));exact HO263.out) gb264 (Nat.le_of_eq hg.symm)) hb);have n3_:=am_ (blk_below (g:=gb251) (o := .cells #[.slice A0_0 l0_0.length c0_0, .slice A0_1 l0_1.length c0_1] 27 (0,0)) (by (with_reducible repeat (first | refine blk_drewN ?_ _ | refine blk_drew ?_ | refine blk_alloc ?_ _));exact BK251.out) hb);have n4_:=am_ (blk_below (g:=gb252) (o := .cells #[.slice none 0 0, .slice none 0 0] 27 (0,0)) (by (with_reducible repeat (first | refine blk_drewN ?_ _ | refine blk_drew ?_ | refine blk_alloc ?_ _));exact BK252.out) hb);have n5_:=am_ (below_step (by repeat (first | (with_reducible first | exact HB.out | apply below_alloc | apply pw_below_drewN | apply below_drew1 | refine below_set ?_ GE251.out | refine below_set ?_ GE252.out) | exact HB.out)) hb);have n6_:=am_ hbox;have n7_:=am_ ((by rw [hg];exact (below_size (by repeat (first | (with_reducible first | exact HB.out | apply below_alloc | apply pw_below_drewN | apply below_drew1 | refine below_set ?_ GE251.out | refine below_set ?_ GE252.out) | exact HB.out))) : w.heap.size ≤ gb264));have n8_:=am_ ((by rw [hg];exact (below_size (by repeat (first | (with_reducible first | exact HB.out | apply below_alloc | apply pw_below_drewN | apply below_drew1 | refine below_set ?_ GE251.out | refine below_set ?_ GE252.out) | exact HB.out))) : w.heap.size ≤ gb264));have n9_:=am_ ((by rw [hg];exact Nat.ne_of_lt (blk_lt (g:=gb251) (o := .cells #[.slice A0_0 l0_0.length c0_0, .slice A0_1 l0_1.length c0_1] 27 (0,0)) (by (with_reducible repeat (first | refine blk_drewN ?_ _ | refine blk_drew ?_ | refine blk_alloc ?_ _));exact BK251.out)) : gb251 ≠ gb264));have n10_:=am_ ((by rw [hg];exact Nat.ne_of_gt (blk_lt (g:=gb251) (o := .cells #[.slice A0_0 l0_0.length c0_0, .slice A0_1 l0_1.length c0_1] 27 (0,0)) (by (with_reducible repeat (first | refine blk_drewN ?_ _ | refine blk_drew ?_ | refine blk_alloc ?_ _));exact BK251.out)) : gb264 ≠ gb251));have n11_:=am_ ((by rw [hg];exact Nat.ne_of_lt (blk_lt (g:=gb252) (o := .cells #[.slice none 0 0, .slice none 0 0] 27 (0,0)) (by (with_reducible repeat (first | refine blk_drewN ?_ _ | refine blk_drew ?_ | refine blk_alloc ?_ _));exact BK252.out)) : gb252 ≠ gb264));have n12_:=am_ ((by rw [hg];exact Nat.ne_of_gt (blk_lt (g:=gb252) (o := .cells #[.slice none 0 0, .slice none 0 0] 27 (0,0)) (by (with_reducible repeat (first | refine blk_drewN ?_ _ | refine blk_drew ?_ | refine blk_alloc ?_ _));exact BK252.out)) : gb264 ≠ gb252));clear HO_7;clear HO260;clear HO263;clear BK251;clear BK252;clear HB;have HO_7:=n0_;have HO260:=n1_;have HO263:=n2_;have BK251:=n3_;have BK252:=n4_;have HB:=n5_;have BK264:=n6_;have GW264:=n7_;have GE264:=n8_;have NB251_264:=n9_;have NB264_251:=n10_;have NB252_264:=n11_;have NB264_252:=n12_;clear n0_ n1_ n2_ n3_ n4_ n5_ n6_ n7_ n8_ n9_ n10_ n11_ n12_;clear hb hbox hg;obtain ⟨Ao32,co32,eo32⟩ := Kd.R_slice HO260.out;subst eo32;have hnb33:=NB264_251.out;have hnc33:=NB251_264.out;have hnb34:=NB264_252.out;have hnc34:=NB252_264.out;have hcz35_0:=c2_0 BK264.out;have hcz35_1:=c2_1 BK264.out;have hfz35_0:=blk_frozen BK264.out 0;have hfz35_1:=blk_frozen BK264.out 1;obtain ⟨Ao36,co36,eo36⟩ := Kd.N_slice HO263.out;subst eo36) | ((with_reducible refine gate_store (t:=27) (p:=8) rfl ?_);refine store_event (t:=27) (p:=8) (v:=?vo_w37) (w1:=((w31.setCell ⟨gb264,0,none⟩ (.slice Ao32 t258.length co32)).setCell ⟨gb264,1,none⟩ (.slice Ao36 t261.length co36))) ?hg ?ho ?hn ?hr ?_;(case ho => rfl);(case hg => rfl);(case hn => rfl);(case hr => first | (go_simp;done) | (go_simp;rfl));intro w37 hw;have n0_ : Aside0 (Kd.R (Kd.int .i64) 3 w37 w.heap.size (fun k_ => (w.heap.size ≤ k_) ∧ some k_ ≠ (.slice Ao32 t258.length co32 : Value).ownBlock) v254 y253):=⟨(by rw [hw];exact (by (with_reducible repeat (first | apply Kd.R_alloc | apply Kd.R_drewN | apply Kd.R_drew));exact Kd.R_mono (rf2_ (Kd.R_types HO_7.out BK264.out (by decide)) (.slice Ao32 t258.length co32) (.slice Ao36 t261.length co36)) (fun _ hk => ⟨hk.1.1,hk.1.2⟩)))⟩;have n1_ : Aside0 (Kd.R (Kd.int .i64) 3 w37 w.heap.size (fun k_ => (w.heap.size ≤ k_) ∧ some k_ ≠ (v254 : Value).ownBlock) (.slice Ao32 t258.length co32) t258):=⟨(by rw [hw];exact (by (with_reducible repeat (first | apply Kd.R_alloc | apply Kd.R_drewN | apply Kd.R_drew));exact Kd.R_mono (rf2_ (Kd.R_types HO260.out BK264.out (by decide)) (.slice Ao32 t258.length co32) (.slice Ao36 t261.length co36)) (fun _ hk => ⟨hk.1.1.1,hk.1.2⟩)))⟩;have n2_ : Aside0 (Kd.N (Kd.slice 3 (Kd.int .i64)) 24 w37 w.heap.size (fun k_ => (w.heap.size ≤ k_) ∧ some k_ ≠ (v254 : Value).ownBlock ∧ some k_ ≠ (.slice Ao32 t258.length co32 : Value).ownBlock ∧ k_ ≠ gb251 ∧ k_ ≠ gb252 ∧ k_ ≠ gb264) (.slice Ao36 t261.length co36) t261):=⟨(by rw [hw];exact (by (with_reducible repeat (first | apply Kd.N_alloc | apply Kd.N_drewN | apply Kd.N_drew));exact Kd.N_mono (Kd.N_far (p:=⟨gb264,1,none⟩) (Kd.N_far (p:=⟨gb264,0,none⟩) (Kd.N_mono HO263.out (fun k_ hk => (⟨hk,hk.2⟩ : _ ∧ k_ ≠ gb264))) (fun _ hk => hk.2) (.slice Ao32 t258.length co32)) (fun _ hk => hk.2) (.slice Ao36 t261.length co36)) (fun _ hk => ⟨hk.1.1.1,⟨hk.1.1.2.2.1,⟨hk.1.1.2.1,⟨hk.1.1.2.2.2.1,⟨hk.1.1.2.2.2.2,hk.1.2⟩⟩⟩⟩⟩)))⟩;have n3_ : Aside0 (w37.heap[gb251]? = some (.cells #[.slice A0_0 l0_0.length c0_0, .slice A0_1 l0_1.length c0_1] 27 (0,0))):=⟨(by rw [hw];exact (by (with_reducible repeat (first | refine blk_drewN ?_ _ | refine blk_drew ?_ | refine blk_alloc ?_ _));refine blk_far ?_ NB251_264.out _;(with_reducible repeat (first | refine blk_drewN ?_ _ | refine blk_drew ?_ | refine blk_alloc ?_ _));refine blk_far ?_ NB251_264.out _;(with_reducible repeat (first | refine blk_drewN ?_ _ | refine blk_drew ?_ | refine blk_alloc ?_ _));exact BK251.out))⟩;have n4_ : Aside0 (w37.heap[gb252]? = some (.cells #[.slice none 0 0, .slice none 0 0] 27 (0,0))):=⟨(by rw [hw];exact (by (with_reducible repeat (first | refine blk_drewN ?_ _ | refine blk_drew ?_ | refine blk_alloc ?_ _));refine blk_far ?_ NB252_264.out _;(with_reducible repeat (first | refine blk_drewN ?_ _ | refine blk_drew ?_ | refine blk_alloc ?_ _));refine blk_far ?_ NB252_264.out _;(with_reducible repeat (first | refine blk_drewN ?_ _ | refine blk_drew ?_ | refine blk_alloc ?_ _));exact BK252.out))⟩;have n5_ : Aside0 (w37.heap[gb264]? = some (.cells #[.slice Ao32 t258.length co32, .slice Ao36 t261.length co36] 27 (0,0))):=⟨(by rw [hw];exact (by (with_reducible repeat (first | refine blk_drewN ?_ _ | refine blk_drew ?_ | refine blk_alloc ?_ _));refine blk_put (cs:=#[.slice Ao32 t258.length co32, .slice none 0 0]) ?_ 1 _ rfl;(with_reducible repeat (first | refine blk_drewN ?_ _ | refine blk_drew ?_ | refine blk_alloc ?_ _));refine blk_put (cs:=#[.slice none 0 0, .slice none 0 0]) ?_ 0 _ rfl;(with_reducible repeat (first | refine blk_drewN ?_ _ | refine blk_drew ?_ | refine blk_alloc ?_ _));exact BK264.out))⟩;have n6_ : Aside0 (Below w.heap.size w w37):=⟨(by rw [hw];exact (by repeat (first | (with_reducible first | exact HB.out | apply below_alloc | apply pw_below_drewN | apply below_drew1 | refine below_set ?_ GE251.out | refine below_set ?_ GE252.out | refine below_set ?_ GE264.out) | exact HB.out)))⟩;clear hw;clear HO_7;clear HO260;clear HO263;clear BK251;clear BK252;clear BK264;clear HB;have HO_7:=n0_;have HO260:=n1_;have HO263:=n2_;have BK251:=n3_;have BK252:=n4_;have BK264:=n5_;have HB:=n6_;clear n0_ n1_ n2_ n3_ n4_ n5_ n6_;have hcz38_0:=c2_0 BK264.out;have hcz38_1:=c2_1 BK264.out;have hfz38_0:=blk_frozen BK264.out 0;have hfz38_1:=blk_frozen BK264.out 1;have p25 : 0 ≤ (a1 : Int):=of_decide_eq_true (by first | (with_reducible assumption) | assumption);have q25 : (a1 : Int) < ((t258.length : Int) : Int):=of_decide_eq_true (by first | (with_reducible assumption) | assumption);obtain ⟨go25,co25,eo25,gb25,gl25,cl25,HG25⟩ := Kd.R_form HO260.out (by omega);(first | cases eo25 | (injection eo25 with ea_ en_ ec_;(first | subst ea_ | (injection ea_ with ea_;subst ea_));subst ec_;clear en_));have GB25:=am_ gb25;have GG25:=am_ HG25;clear gb25 gl25 HG25;obtain ⟨hx25_0,hf25_0⟩ := Kd.R_celln 0 HO260.out (a1 : Int) p25 q25;replace p25:=eq_true p25;replace q25:=eq_true q25;obtain ⟨hy39_,hz39_⟩ := Kd.R_celln 0 HO260.out (a1 : Int) (of_decide_eq_true (by first | (with_reducible assumption) | assumption)) (of_decide_eq_true (by first | (with_reducible assumption) | assumption));have HP39:=Kd.R_putg HO260.out (a1 : Int) 0) | ((with_reducible refine gate_store (t:=3) (p:=29) rfl ?_);refine store_event (t:=3) (p:=29) (v:=?vo_w40) (w1:=(w37.setCell ⟨go25,(a1 : Int).toNat,none⟩ (.int .i64 0))) ?hg ?ho ?hn ?hr ?_;(case ho => rfl);(case hg => rfl);(case hn => rfl);(case hr => first | (go_simp;done) | (go_simp;rfl));intro w40 hw;have hg : w37.grownBy w40 (some go25):=(by rw [hw];exact HP39.2);have hp_ : Kd.R (Kd.int .i64) 3 w40 w.heap.size (fun k_ => (w.heap.size ≤ k_) ∧ some k_ ≠ (v254 : Value).ownBlock) (.slice (some ⟨go25,0,none⟩) t258.length co32) y265:=(by rw [hw,Ny265.out];exact HP39.1);clear HP39;have n0_:=am_ (Kd.R_after (v:=(.slice (some ⟨go25,0,none⟩) t258.length co32)) (v1:=(.slice (some ⟨go25,0,none⟩) t258.length co32)) (ok:=(fun k_ => (w.heap.size ≤ k_))) (by (with_reducible repeat (first | apply Kd.R_alloc | apply Kd.R_drewN | apply Kd.R_drew));exact HO_7.out) hg (.inl rfl));have n1_:=am_ (blk_grown (g:=gb251) (o := .cells #[.slice A0_0 l0_0.length c0_0, .slice A0_1 l0_1.length c0_1] 27 (0,0)) (by (with_reducible repeat (first | refine blk_drewN ?_ _ | refine blk_drew ?_ | refine blk_alloc ?_ _));exact BK251.out) hg (Kd.R_ne HO260.out BK251.out (by decide)));have n2_:=am_ (blk_grown (g:=gb252) (o := .cells #[.slice none 0 0, .slice none 0 0] 27 (0,0)) (by (with_reducible repeat (first | refine blk_drewN ?_ _ | refine blk_drew ?_ | refine blk_alloc ?_ _));exact BK252.out) hg (Kd.R_ne HO260.out BK252.out (by decide)));have n3_:=am_ (hp_);have n4_:=am_ (Kd.N_afterv (v:=(.slice (some ⟨go25,0,none⟩) t258.length co32)) (v1:=(.slice (some ⟨go25,0,none⟩) t258.length co32)) (ok:=(fun k_ => (w.heap.size ≤ k_) ∧ some k_ ≠ (v254 : Value).ownBlock ∧ k_ ≠ gb251 ∧ k_ ≠ gb252 ∧ k_ ≠ gb264)) (by (with_reducible repeat (first | apply Kd.N_alloc | apply Kd.N_drewN | apply Kd.N_drew));exact Kd.N_mono HO263.out (fun _ hk => ⟨⟨hk.1,⟨hk.2.1,⟨hk.2.2.2.1,⟨hk.2.2.2.2.1,hk.2.2.2.2.2⟩⟩⟩⟩,hk.2.2.1⟩)) hg (.inl rfl));have n5_:=am_ (blk_grown (g:=gb264) (o := .cells #[.slice (some ⟨go25,0,none⟩) t258.length co32, .slice Ao36 t261.length co36] 27 (0,0)) (by (with_reducible repeat (first | refine blk_drewN ?_ _ | refine blk_drew ?_ | refine blk_alloc ?_ _));exact BK264.out) hg (Kd.R_ne HO260.out BK264.out (by decide)));have n6_:=am_ ((by rw [hw];exact below_set (HB.out) GB25.out : Below w.heap.size w w40));clear HO_7;clear BK251;clear BK252;clear HO260;clear HO263;clear BK264;clear HB;have HO_7:=n0_;have BK251:=n1_;have BK252:=n2_;have HO260:=n3_;have HO263:=n4_;have BK264:=n5_;have HB:=n6_;clear n0_ n1_ n2_ n3_ n4_ n5_ n6_;clear hg hw hp_;have hcz41_0:=c2_0 BK264.out;have hcz41_1:=c2_1 BK264.out;have hfz41_0:=blk_frozen BK264.out 0;have hfz41_1:=blk_frozen BK264.out 1) | ((with_reducible refine gate_dst (N:=33) rfl ?_);(try (refine gate_guard (by rfl) ?_;dsimp only));refine Kd.R_lit (Kd.int .i64) _ 3 ?hg (N:=33) ?hd (xs:=([] : List Int)) (inner := []) (ok:=fun _ => True) (okp:=fun _ => True) ?hr ?hp (fun _ hk => hk) trivial (Below.refl _ _) (Nat.le_refl _) (by simp) ?_;(case hd => rfl);(case hg => rfl);(case hr => first | (go_simp;done) | (go_simp;rfl));(case hp => exact (Reps.none _ _));intro v267 w42 ho43 hb hg_ hnew_;clear hg_ hnew_;(first | rw [← Ny266.out] at ho43 | (simp only [Int.reduceToNat] at ho43;rw [← Ny266.out] at ho43));have n0_:=am_ (Kd.R_elder' (by (with_reducible repeat (first | apply Kd.R_alloc | apply Kd.R_drewN | apply Kd.R_drew));exact HO_7.out) (Kd.R_base ho43) hb);have n1_:=am_ (Kd.R_elder' (by (with_reducible repeat (first | apply Kd.R_alloc | apply Kd.R_drewN | apply Kd.R_drew));exact HO260.out) (Kd.R_base ho43) hb);have n2_:=am_ (Kd.N_elder' (by (with_reducible repeat (first | apply Kd.N_alloc | apply Kd.N_drewN | apply Kd.N_drew));exact HO263.out) (Kd.R_base ho43) hb);have n3_:=am_ (Kd.R_lower (Kd.R_new' (Kd.R_new' (Kd.R_newM (M:=fun k_ => (w.heap.size ≤ k_)) ho43 (below_size (by repeat (first | (with_reducible first | exact HB.out | apply below_alloc | apply pw_below_drewN | apply below_drew1 | refine below_set ?_ GE251.out | refine below_set ?_ GE252.out | refine below_set ?_ GE264.out) | exact HB.out))) (fun k_ h_ => h_)) (Kd.R_lt (by (with_reducible repeat (first | apply Kd.R_alloc | apply Kd.R_drewN | apply Kd.R_drew));exact HO_7.out))) (Kd.R_lt (by (with_reducible repeat (first | apply Kd.R_alloc | apply Kd.R_drewN | apply Kd.R_drew));exact HO260.out))) (below_size (by repeat (first | (with_reducible first | exact HB.out | apply below_alloc | apply pw_below_drewN | apply below_drew1 | refine below_set ?_ GE251.out | refine below_set ?_ GE252.out | refine below_set ?_ GE264.out) | exact HB.out))));have n4_:=am_ (blk_below (g:=gb251) (o := .cells #[.slice A0_0 l0_0.length c0_0, .slice A0_1 l0_1.length c0_1] 27 (0,0)) (by (with_reducible repeat (first | refine blk_drewN ?_ _ | refine blk_drew ?_ | refine blk_alloc ?_ _));exact BK251.out) hb);have n5_:=am_ (blk_below (g:=gb252) (o := .cells #[.slice none 0 0, .slice none 0 0] 27 (0,0)) (by (with_reducible repeat (first | refine blk_drewN ?_ _ | refine blk_drew ?_ | refine blk_alloc ?_ _));exact BK252.out) hb);have n6_:=am_ (blk_below (g:=gb264) (o := .cells #[.slice (some ⟨go25,0,none⟩) t258.length co32, .slice Ao36 t261.length co36] 27 (0,0)) (by (with_reducible repeat (first | refine blk_drewN ?_ _ | refine blk_drew ?_ | refine blk_alloc ?_ _));exact BK264.out) hb);have n7_:=am_ (below_step (by repeat (first | (with_reducible first | exact HB.out | apply below_alloc | apply pw_below_drewN | apply below_drew1 | refine below_set ?_ GE251.out | refine below_set ?_ GE252.out | refine below_set ?_ GE264.out) | exact HB.out)) hb);clear HO_7;clear HO260;clear HO263;clear BK251;clear BK252;clear BK264;clear HB;have HO_7:=n0_;have HO260:=n1_;have HO263:=n2_;have HO268:=n3_;have BK251:=n4_;have BK252:=n5_;have BK264:=n6_;have HB:=n7_;clear n0_ n1_ n2_ n3_ n4_ n5_ n6_ n7_;clear hb ho43;have p27 : 0 ≤ (a1 : Int):=of_decide_eq_true (by first | (with_reducible assumption) | assumption);have q27 : (a1 : Int) < ((t261.length : Int) : Int):=of_decide_eq_true (by first | (with_reducible assumption) | assumption);obtain ⟨go27,co27,eo27,gb27,gl27,cl27,HG27⟩ := Kd.N_form HO263.out (by omega);(first | cases eo27 | (injection eo27 with ea_ en_ ec_;(first | subst ea_ | (injection ea_ with ea_;subst ea_));subst ec_;clear en_));have GB27:=am_ gb27;have GG27:=am_ HG27;clear gb27 gl27 HG27;obtain ⟨ce27,hcl27,hM27,hcc27,hfr27⟩ := Kd.N_elem HO263.out [] (a1 : Int) p27 q27;obtain ⟨ua27_0,uc27_0,rfl,ul27_0,ge27_0⟩ := Kd.FK_slice_open hM27;have hx27_0:=hcc27 0 _ rfl;have hf27_0:=hfr27 0;(try simp only [show ((Kd.slice 3 (Kd.int .i64))).sz = 1 from rfl,Nat.mul_one,Nat.add_zero] at hx27_0);(try simp only [show ((Kd.slice 3 (Kd.int .i64))).sz = 1 from rfl,Nat.mul_one,Nat.add_zero] at hf27_0);clear hcl27 hcc27 hfr27;(try clear hM27);replace p27:=eq_true p27;replace q27:=eq_true q27;have n_:=am_ (Kd.N_mono (ok':=(fun k_ => (w.heap.size ≤ k_) ∧ some k_ ≠ (v254 : Value).ownBlock ∧ some k_ ≠ (.slice (some ⟨go25,0,none⟩) t258.length co32 : Value).ownBlock ∧ some k_ ≠ (v267 : Value).ownBlock ∧ k_ ≠ gb251 ∧ k_ ≠ gb252 ∧ k_ ≠ gb264)) HO263.out (fun k_ hk => ⟨hk.1.1.1,⟨hk.1.1.2.1,⟨hk.1.2,⟨hk.2,⟨hk.1.1.2.2.1,⟨hk.1.1.2.2.2.1,hk.1.1.2.2.2.2⟩⟩⟩⟩⟩⟩));clear HO263;have HO263:=n_;clear n_;have HX44:=am_ (show Kd.N (Kd.slice 3 (Kd.int .i64)) 24 w42 w.heap.size (fun k_ => (w.heap.size ≤ k_) ∧ some k_ ≠ (v254 : Value).ownBlock ∧ some k_ ≠ (.slice (some ⟨go25,0,none⟩) t258.length co32 : Value).ownBlock ∧ k_ ≠ gb251 ∧ k_ ≠ gb252 ∧ k_ ≠ gb264) (.slice (some ⟨go27,0,none⟩) t261.length co36) t261 from (by (with_reducible repeat (first | apply Kd.N_alloc | apply Kd.N_drewN | apply Kd.N_drew));exact Kd.N_mono HO263.out (fun _ hk => ⟨hk.1,⟨hk.2.1,⟨hk.2.2.1,⟨hk.2.2.2.2.1,⟨hk.2.2.2.2.2.1,hk.2.2.2.2.2.2⟩⟩⟩⟩⟩)));obtain ⟨ce44,hcl44,hM44,hcc44,hfr44⟩ := Kd.N_elem HX44.out [] (a1 : Int) (of_decide_eq_true (by first | (with_reducible assumption) | assumption)) (by have h_ : (a1 : Int) < ((t261.length : Int) : Int):=of_decide_eq_true (by first | (with_reducible assumption) | assumption);first | exact h_ | (have e_:=(Kd.N_reads' HO263.out).1;omega) | simpa using h_);obtain ⟨ua44_0,uc44_0,rfl,ul44_0,ge44_0⟩ := Kd.FK_slice_open hM44;have HP44:=Kd.N_seg HX44.out (a1 : Int) (of_decide_eq_true (by first | (with_reducible assumption) | assumption)) (by have h_ : (a1 : Int) < ((t261.length : Int) : Int):=of_decide_eq_true (by first | (with_reducible assumption) | assumption);first | exact h_ | (have e_:=(Kd.N_reads' HO263.out).1;omega) | simpa using h_) (seg := [v267]) (j:=0) hcl44 hcc44 (show 1 ≤ 1 from by decide) (x':=y266) (Kd.FK_row (Kd.R_mono (ok':=(fun k_ => ((fun k_ => (w.heap.size ≤ k_) ∧ some k_ ≠ (v254 : Value).ownBlock ∧ some k_ ≠ (.slice (some ⟨go25,0,none⟩) t258.length co32 : Value).ownBlock ∧ k_ ≠ gb251 ∧ k_ ≠ gb252 ∧ k_ ≠ gb264)) k_ ∧ k_ ≠ go27)) (Kd.R_types (Kd.R_types (Kd.R_types (Kd.R_apart' (HO268.out) (Kd.N_typed HO263.out) (by decide)) BK251.out (by decide)) BK252.out (by decide)) BK264.out (by decide)) (fun k_ hk => ⟨⟨hk.1.1.1.1.1.1.1,⟨hk.1.1.1.1.1.2,⟨hk.1.1.1.1.2,⟨hk.1.1.2,⟨hk.1.2,hk.2⟩⟩⟩⟩⟩,fun e_ => (hk.1.1.1.2) (by rw [e_];rfl)⟩))) (fun _ hk => hk);have hx44_0:=hcc44 0 _ rfl;(try simp only [show ((Kd.slice 3 (Kd.int .i64))).sz = 1 from rfl,Nat.mul_one,Nat.add_zero] at hx44_0);have hf44_0:=hfr44 0;(try simp only [show ((Kd.slice 3 (Kd.int .i64))).sz = 1 from rfl,Nat.mul_one,Nat.add_zero] at hf44_0);clear hcl44 hcc44 hfr44;(try clear hM44);(try simp only [show ((Kd.slice 3 (Kd.int .i64))).sz = 1 from rfl,Nat.mul_one,Nat.add_zero] at HP44);(try simp only [show ((Kd.slice 3 (Kd.int .i64))).sz = 1 from rfl,Nat.mul_one,Nat.add_zero] at HP44)) | ((with_reducible refine gate_store (t:=24) (p:=34) rfl ?_);refine store_event (t:=24) (p:=34) (v:=?vo_w45) (w1:=(w42.setCell ⟨go27,(a1 : Int).toNat,none⟩ (v267))) ?hg ?ho ?hn ?hr ?_;(case ho => rfl);(case hg => rfl);(case hn => rfl);(case hr => first | (go_simp;done) | (obtain ⟨Aq_,cq_,eq_⟩ := Kd.R_slice HO268.out;rw [eq_];first | (go_simp;done) | (go_simp;rfl)) | (go_simp;rfl));intro w45 hw;have hg : w42.grownBy w45 (some go27):=(by rw [hw];exact HP44.2);have hp_ : Kd.N (Kd.slice 3 (Kd.int .i64)) 24 w45 w.heap.size (fun k_ => (w.heap.size ≤ k_) ∧ some k_ ≠ (v254 : Value).ownBlock ∧ some k_ ≠ (.slice (some ⟨go25,0,none⟩) t258.length co32 : Value).ownBlock ∧ k_ ≠ gb251 ∧ k_ ≠ gb252 ∧ k_ ≠ gb264) (.slice (some ⟨go27,0,none⟩) t261.length co36) y269:=(by rw [hw,Ny269.out];exact HP44.1);clear HP44;have n0_:=am_ (Kd.R_over' (v:=(.slice (some ⟨go27,0,none⟩) t261.length co36)) (by (with_reducible repeat (first | apply Kd.R_alloc | apply Kd.R_drewN | apply Kd.R_drew));exact HO_7.out) (Kd.N_typed HO263.out) (by decide) hg);have n1_:=am_ (blk_grown (g:=gb251) (o := .cells #[.slice A0_0 l0_0.length c0_0, .slice A0_1 l0_1.length c0_1] 27 (0,0)) (by (with_reducible repeat (first | refine blk_drewN ?_ _ | refine blk_drew ?_ | refine blk_alloc ?_ _));exact BK251.out) hg (Kd.N_ne HO263.out BK251.out (by decide)));have n2_:=am_ (blk_grown (g:=gb252) (o := .cells #[.slice none 0 0, .slice none 0 0] 27 (0,0)) (by (with_reducible repeat (first | refine blk_drewN ?_ _ | refine blk_drew ?_ | refine blk_alloc ?_ _));exact BK252.out) hg (Kd.N_ne HO263.out BK252.out (by decide)));have n3_:=am_ (Kd.R_over' (v:=(.slice (some ⟨go27,0,none⟩) t261.length co36)) (by (with_reducible repeat (first | apply Kd.R_alloc | apply Kd.R_drewN | apply Kd.R_drew));exact HO260.out) (Kd.N_typed HO263.out) (by decide) hg);have n4_:=am_ (hp_);have n5_:=am_ (blk_grown (g:=gb264) (o := .cells #[.slice (some ⟨go25,0,none⟩) t258.length co32, .slice (some ⟨go27,0,none⟩) t261.length co36] 27 (0,0)) (by (with_reducible repeat (first | refine blk_drewN ?_ _ | refine blk_drew ?_ | refine blk_alloc ?_ _));exact BK264.out) hg (Kd.N_ne HO263.out BK264.out (by decide)));have n6_:=am_ ((by rw [hw];exact below_set (HB.out) GB27.out : Below w.heap.size w w45));clear HO_7;clear BK251;clear BK252;clear HO260;clear HO263;clear BK264;clear HB;clear HO268;have HO_7:=n0_;have BK251:=n1_;have BK252:=n2_;have HO260:=n3_;have HO263:=n4_;have BK264:=n5_;have HB:=n6_;clear n0_ n1_ n2_ n3_ n4_ n5_ n6_;clear hg hw hp_))
       (try simp only [Act.put,sA_,s0_,s1_])
       go_loopg [7,9] kj2 (fun kq v7 v9 w' => ∃ (x7_2 : List Int) (x9_2 : Int) (x265001_2 : List (List Int)) (u265001 : Value),v9 = .int .i64 x9_2 ∧ Aside0 (spec_CloseSlot.l0 kq a1 x7_2 x9_2 l0_0 l0_1 y265 x265001_2 = some (r1,r2,r3,r4)) ∧ Aside0 (kq ≤ kj2) ∧ Aside0 (Kd.R (Kd.int .i64) 3 w' w.heap.size (fun k_ => (w.heap.size ≤ k_) ∧ some k_ ≠ ((.slice (some ⟨go25,0,none⟩) t258.length co32) : Value).ownBlock) v7 x7_2) ∧ Aside0 (Kd.R (Kd.int .i64) 3 w' w.heap.size (fun k_ => (w.heap.size ≤ k_) ∧ some k_ ≠ (v7 : Value).ownBlock) (.slice (some ⟨go25,0,none⟩) t258.length co32) y265) ∧ Aside0 (Kd.N (Kd.slice 3 (Kd.int .i64)) 24 w' w.heap.size (fun k_ => (w.heap.size ≤ k_) ∧ some k_ ≠ (v7 : Value).ownBlock ∧ some k_ ≠ ((.slice (some ⟨go25,0,none⟩) t258.length co32) : Value).ownBlock ∧ k_ ≠ gb251 ∧ k_ ≠ gb252 ∧ k_ ≠ gb264) u265001 x265001_2) ∧ Aside0 (w'.heap[gb251]? = some (.cells #[(.slice A0_0 l0_0.length c0_0),(.slice A0_1 l0_1.length c0_1)] 27 (0,0))) ∧ Aside0 (w'.heap[gb252]? = some (.cells #[(.slice none 0 0),(.slice none 0 0)] 27 (0,0))) ∧ Aside0 (w'.heap[gb264]? = some (.cells #[(.slice (some ⟨go25,0,none⟩) t258.length co32),u265001] 27 (0,0))) ∧ Aside0 (Below w.heap.size w w'))
       case atStart => exact ⟨(y253),(0),(y269),(.slice (some ⟨go27,0,none⟩) t261.length co36),(by first | rfl | (simp;done) | (simp [*];done)),H',⟨Nat.le_refl _⟩,⟨by (with_reducible repeat (first | apply Kd.R_alloc | apply Kd.R_drewN | apply Kd.R_drew));exact Kd.R_mono HO_7.out (fun _ hk => ⟨hk.1.1,hk.1.2⟩)⟩,⟨by (with_reducible repeat (first | apply Kd.R_alloc | apply Kd.R_drewN | apply Kd.R_drew));exact Kd.R_mono HO260.out (fun _ hk => ⟨hk.1.1,hk.1.2⟩)⟩,⟨by (with_reducible repeat (first | apply Kd.N_alloc | apply Kd.N_drewN | apply Kd.N_drew));exact HO263.out⟩,⟨by (with_reducible repeat (first | refine blk_drewN ?_ _ | refine blk_drew ?_ | refine blk_alloc ?_ _));exact BK251.out⟩,⟨by (with_reducible repeat (first | refine blk_drewN ?_ _ | refine blk_drew ?_ | refine blk_alloc ?_ _));exact BK252.out⟩,⟨by (with_reducible repeat (first | refine blk_drewN ?_ _ | refine blk_drew ?_ | refine blk_alloc ?_ _));exact BK264.out⟩,⟨by repeat (first | (with_reducible first | exact HB.out | apply below_alloc | apply pw_below_drewN | apply below_drew1 | refine below_set ?_ GE251.out | refine below_set ?_ GE252.out | refine below_set ?_ GE264.out) | exact HB.out)⟩⟩
       case round =>
        clear H';(try clear c1);(try clear c2);(try clear p2);(try clear q2);(try clear hx2);(try clear hf2);(try clear c3);(try clear c4);(try clear hx4);(try clear hf4);(try clear c5);(try clear c9);(try clear c11);(try clear c16);(try clear c19);(try clear c20);(try clear c23);(try clear c23b0);(try clear c24);(try clear c24b0);(try clear p25);(try clear q25);(try clear hx25);(try clear hf25);(try clear c26);(try clear c26b0);(try clear c27);(try clear p27);(try clear q27);(try clear hx27);(try clear hf27);(try clear c28);(try clear c33);(try clear c34);(try clear c44);(try clear hx44);(try clear hf44);(try clear hcz12_0);(try clear hcz12_1);(try clear hcz14_0);(try clear hcz14_1);(try clear hcz17_0);(try clear hcz17_1);(try clear hcz21_0);(try clear hcz21_1);(try clear hcz29_0);(try clear hcz29_1);(try clear hcz35_0);(try clear hcz35_1);(try clear hcz38_0);(try clear hcz38_1);(try clear hcz41_0);(try clear hcz41_1);(try clear hfz12_0);(try clear hfz12_1);(try clear hfz14_0);(try clear hfz14_1);(try clear hfz17_0);(try clear hfz17_1);(try clear hfz21_0);(try clear hfz21_1);(try clear hfz29_0);(try clear hfz29_1);(try clear hfz35_0);(try clear hfz35_1);(try clear hfz38_0);(try clear hfz38_1);(try clear hfz41_0);(try clear hfz41_1);(try clear hx25_0);(try clear hx27_0);(try clear hx44_0);(try clear p2);(try clear p25);(try clear p27);(try clear q25);(try clear q27);obtain ⟨x7_2,x9_2,x265001_2,u265001,rfl,HA,HK2,HO_7,HO_265000,HO_265001,BK251,BK252,BK264,HB⟩ := hrel;have hl265000_2:=(Kd.R_reads' HO_265000.out).1;rw [hl265000_2] at HO_265000;(try simp only [hl265000_2]);(try simp only [hl265000_2] at BK251);(try simp only [hl265000_2] at BK252);(try simp only [hl265000_2] at BK264);(try simp only [hl265000_2] at HO_7);(try simp only [hl265000_2] at HO_265001)
        cases gk with
        | zero => exact absurd HA.out (by simp [spec_CloseSlot.l0])
        | succ k2 =>
         have H:=HA.out;clear HA;simp only [spec_CloseSlot.l0] at H
         by_cases c46 : 0 ≤ a1
         ·rw [if_pos c46] at H;have c46b0 : decide (0 ≤ a1) = true:=decide_eq_true c46;clear c46
          by_cases c47 : a1 < (l0_1.length : Int)
          ·rw [if_pos c47] at H;have c47b0 : decide (a1 < (l0_1.length : Int)) = true:=decide_eq_true c47;clear c47
           by_cases c48 : x9_2 < ((rd_L1 l0_1 a1).length : Int)
           ·rw [if_pos c48] at H;have c48b0 : decide (x9_2 < ((rd_L1 l0_1 a1).length : Int)) = true:=decide_eq_true c48;clear c48;have H':=am_ H;clear H;have hnb49:=NB251_252.out;have hnc49:=NB252_251.out;have hnb50:=NB251_264.out;have hnc50:=NB264_251.out;have hcz51_0:=c2_0 BK251.out;have hcz51_1:=c2_1 BK251.out;have hfz51_0:=blk_frozen BK251.out 0;have hfz51_1:=blk_frozen BK251.out 1;have p270 : 0 ≤ (a1 : Int):=of_decide_eq_true (by first | (with_reducible assumption) | assumption);have q270 : a1 < (l0_1.length : Int):=of_decide_eq_true (by first | (with_reducible assumption) | assumption);obtain ⟨ad270,A270_0,c270_0,e270,hx270_0,hl270_0,hi270_0⟩ := at_L1 HR0_1.out a1 p270 q270;cases e270;replace hx270_0:=(HB.out.cell (World.block_lt_of_cell? w _ hx270_0)).trans hx270_0;have HR270_0:=am_ hi270_0;have HC270_0:=am_ hl270_0;clear hi270_0 hl270_0;replace p270:=eq_true p270;replace q270:=eq_true q270
            go_wp2
            (try simp only [Act.put,sA_,s0_,s1_])
            go_loopg [10,11] k2 (fun kq v10 v11 w' => ∃ (x10_3 : Int) (x11_3 : Int),v10 = .int .i64 x10_3 ∧ v11 = .int .i64 x11_3 ∧ Aside0 (spec_CloseSlot.l1 kq a1 x7_2 x9_2 x10_3 x11_3 l0_0 l0_1 y265 x265001_2 = some (r1,r2,r3,r4)) ∧ Aside0 (kq ≤ k2) ∧ Aside0 (Kd.R (Kd.int .i64) 3 w' w.heap.size (fun k_ => (w.heap.size ≤ k_) ∧ some k_ ≠ ((.slice (some ⟨go25,0,none⟩) y265.length co32) : Value).ownBlock) u7 x7_2) ∧ Aside0 (Kd.R (Kd.int .i64) 3 w' w.heap.size (fun k_ => (w.heap.size ≤ k_) ∧ some k_ ≠ (u7 : Value).ownBlock) (.slice (some ⟨go25,0,none⟩) y265.length co32) y265) ∧ Aside0 (Kd.N (Kd.slice 3 (Kd.int .i64)) 24 w' w.heap.size (fun k_ => (w.heap.size ≤ k_) ∧ some k_ ≠ (u7 : Value).ownBlock ∧ some k_ ≠ ((.slice (some ⟨go25,0,none⟩) y265.length co32) : Value).ownBlock ∧ k_ ≠ gb251 ∧ k_ ≠ gb252 ∧ k_ ≠ gb264) u265001 x265001_2) ∧ Aside0 (w'.heap[gb251]? = some (.cells #[(.slice A0_0 l0_0.length c0_0),(.slice (some ad270) l0_1.length c0_1)] 27 (0,0))) ∧ Aside0 (w'.heap[gb252]? = some (.cells #[(.slice none 0 0),(.slice none 0 0)] 27 (0,0))) ∧ Aside0 (w'.heap[gb264]? = some (.cells #[(.slice (some ⟨go25,0,none⟩) y265.length co32),u265001] 27 (0,0))) ∧ Aside0 (Below w.heap.size w w'))
            case atStart => exact ⟨((-1)),(1),(by first | rfl | (simp;done) | (simp [*];done)),(by first | rfl | (simp;done) | (simp [*];done)),H',⟨Nat.le_refl _⟩,⟨by (try simp only [hl265000_2]);(with_reducible repeat (first | apply Kd.R_alloc | apply Kd.R_drewN | apply Kd.R_drew));exact HO_7.out⟩,⟨by (try simp only [hl265000_2]);(with_reducible repeat (first | apply Kd.R_alloc | apply Kd.R_drewN | apply Kd.R_drew));exact HO_265000.out⟩,⟨by (try simp only [hl265000_2]);(with_reducible repeat (first | apply Kd.N_alloc | apply Kd.N_drewN | apply Kd.N_drew));exact HO_265001.out⟩,⟨by (try simp only [hl265000_2]);(with_reducible repeat (first | refine blk_drewN ?_ _ | refine blk_drew ?_ | refine blk_alloc ?_ _));exact BK251.out⟩,⟨by (try simp only [hl265000_2]);(with_reducible repeat (first | refine blk_drewN ?_ _ | refine blk_drew ?_ | refine blk_alloc ?_ _));exact BK252.out⟩,⟨by (try simp only [hl265000_2]);(with_reducible repeat (first | refine blk_drewN ?_ _ | refine blk_drew ?_ | refine blk_alloc ?_ _));exact BK264.out⟩,⟨by repeat (first | (with_reducible first | exact HB.out | apply below_alloc | apply pw_below_drewN | apply below_drew1 | refine below_set ?_ GE251.out | refine below_set ?_ GE252.out | refine below_set ?_ GE264.out) | exact HB.out)⟩⟩
            case round =>
             clear H';(try clear c1);(try clear c2);(try clear p2);(try clear q2);(try clear hx2);(try clear hf2);(try clear c3);(try clear c4);(try clear hx4);(try clear hf4);(try clear c5);(try clear c9);(try clear c11);(try clear c16);(try clear c19);(try clear c20);(try clear c23);(try clear c23b0);(try clear c24);(try clear c24b0);(try clear p25);(try clear q25);(try clear hx25);(try clear hf25);(try clear c26);(try clear c26b0);(try clear c27);(try clear p27);(try clear q27);(try clear hx27);(try clear hf27);(try clear c28);(try clear c33);(try clear c34);(try clear c44);(try clear hx44);(try clear hf44);(try clear c46);(try clear c46b0);(try clear c47);(try clear c47b0);(try clear c48);(try clear c48b0);(try clear c49);(try clear c50);(try clear hcz12_0);(try clear hcz12_1);(try clear hcz14_0);(try clear hcz14_1);(try clear hcz17_0);(try clear hcz17_1);(try clear hcz21_0);(try clear hcz21_1);(try clear hcz29_0);(try clear hcz29_1);(try clear hcz35_0);(try clear hcz35_1);(try clear hcz38_0);(try clear hcz38_1);(try clear hcz41_0);(try clear hcz41_1);(try clear hcz51_0);(try clear hcz51_1);(try clear hfz12_0);(try clear hfz12_1);(try clear hfz14_0);(try clear hfz14_1);(try clear hfz17_0);(try clear hfz17_1);(try clear hfz21_0);(try clear hfz21_1);(try clear hfz29_0);(try clear hfz29_1);(try clear hfz35_0);(try clear hfz35_1);(try clear hfz38_0);(try clear hfz38_1);(try clear hfz41_0);(try clear hfz41_1);(try clear hfz51_0);(try clear hfz51_1);(try clear hx25_0);(try clear hx270_0);(try clear hx27_0);(try clear hx44_0);(try clear p2);(try clear p25);(try clear p27);(try clear p270);(try clear q2);(try clear q25);(try clear q27);(try clear q270);obtain ⟨x10_3,x11_3,rfl,rfl,HA,HK3,HO_7,HO_265000,HO_265001,BK251,BK252,BK264,HB⟩ := hrel
             cases gk with
             | zero => exact absurd HA.out (by simp [spec_CloseSlot.l1])
             | succ k3 =>
              have H:=HA.out;clear HA;simp only [spec_CloseSlot.l1] at H;have HC52:=am_ H;clear H
              go_upto_region 12 with (fail)
              go_cut [53] (fun v53 wc => ∃ (kq : Nat) (x53_51 : Bool),v53 = .bool x53_51 ∧ Aside0 (spec_CloseSlot.j3 kq a1 x7_2 x9_2 x10_3 x11_3 x53_51 l0_0 l0_1 y265 x265001_2 = some (r1,r2,r3,r4)) ∧ Aside0 (kq ≤ k3) ∧ Aside0 (Kd.R (Kd.int .i64) 3 wc w.heap.size (fun k_ => (w.heap.size ≤ k_) ∧ some k_ ≠ ((.slice (some ⟨go25,0,none⟩) y265.length co32) : Value).ownBlock) u7 x7_2) ∧ Aside0 (Kd.R (Kd.int .i64) 3 wc w.heap.size (fun k_ => (w.heap.size ≤ k_) ∧ some k_ ≠ (u7 : Value).ownBlock) (.slice (some ⟨go25,0,none⟩) y265.length co32) y265) ∧ Aside0 (Kd.N (Kd.slice 3 (Kd.int .i64)) 24 wc w.heap.size (fun k_ => (w.heap.size ≤ k_) ∧ some k_ ≠ (u7 : Value).ownBlock ∧ some k_ ≠ ((.slice (some ⟨go25,0,none⟩) y265.length co32) : Value).ownBlock ∧ k_ ≠ gb251 ∧ k_ ≠ gb252 ∧ k_ ≠ gb264) u265001 x265001_2) ∧ Aside0 (wc.heap[gb251]? = some (.cells #[(.slice A0_0 l0_0.length c0_0),(.slice (some ad270) l0_1.length c0_1)] 27 (0,0))) ∧ Aside0 (wc.heap[gb252]? = some (.cells #[(.slice none 0 0),(.slice none 0 0)] 27 (0,0))) ∧ Aside0 (wc.heap[gb264]? = some (.cells #[(.slice (some ⟨go25,0,none⟩) y265.length co32),u265001] 27 (0,0))) ∧ Aside0 (Below w.heap.size w wc))
              case first =>
               have H:=HC52.out;clear HC52
               by_cases c53 : x11_3 < (l0_1.length : Int)
               ·rw [if_pos c53] at H;have c53b0 : decide (x11_3 < (l0_1.length : Int)) = true:=decide_eq_true c53;clear c53
                (first | rw [c53b0] | (simp only [i64_w,i32_w];rw [c53b0]) | skip)
                have H':=am_ H;clear H;have hnb54:=NB251_252.out;have hnc54:=NB252_251.out;have hnb55:=NB251_264.out;have hnc55:=NB264_251.out;have hcz56_0:=c2_0 BK251.out;have hcz56_1:=c2_1 BK251.out;have hfz56_0:=blk_frozen BK251.out 0;have hfz56_1:=blk_frozen BK251.out 1
                go_wp2
                go_meet
                case rel => exact ⟨_,(decide (x10_3 < 0)),(by first | rfl | (simp;done) | (simp [*];done)),H',⟨by have:=HJ2.out;have:=HK2.out;have:=HK3.out;first | omega | exact Nat.le_refl _⟩,⟨by (try simp only [hl265000_2]);(with_reducible repeat (first | apply Kd.R_alloc | apply Kd.R_drewN | apply Kd.R_drew));exact HO_7.out⟩,⟨by (try simp only [hl265000_2]);(with_reducible repeat (first | apply Kd.R_alloc | apply Kd.R_drewN | apply Kd.R_drew));exact HO_265000.out⟩,⟨by (try simp only [hl265000_2]);(with_reducible repeat (first | apply Kd.N_alloc | apply Kd.N_drewN | apply Kd.N_drew));exact HO_265001.out⟩,⟨by (try simp only [hl265000_2]);(with_reducible repeat (first | refine blk_drewN ?_ _ | refine blk_drew ?_ | refine blk_alloc ?_ _));exact BK251.out⟩,⟨by (try simp only [hl265000_2]);(with_reducible repeat (first | refine blk_drewN ?_ _ | refine blk_drew ?_ | refine blk_alloc ?_ _));exact BK252.out⟩,⟨by (try simp only [hl265000_2]);(with_reducible repeat (first | refine blk_drewN ?_ _ | refine blk_drew ?_ | refine blk_alloc ?_ _));exact BK264.out⟩,⟨by repeat (first | (with_reducible first | exact HB.out | apply below_alloc | apply pw_below_drewN | apply below_drew1 | refine below_set ?_ GE251.out | refine below_set ?_ GE252.out | refine below_set ?_ GE264.out) | exact HB.out)⟩⟩
               ·rw [if_neg c53] at H;have c53b0 : decide (x11_3 < (l0_1.length : Int)) = false:=decide_eq_false c53;clear c53
                (first | rw [c53b0] | (simp only [i64_w,i32_w];rw [c53b0]) | skip)
                have H':=am_ H;clear H;have hnb57:=NB251_252.out;have hnc57:=NB252_251.out;have hnb58:=NB251_264.out;have hnc58:=NB264_251.out;have hcz59_0:=c2_0 BK251.out;have hcz59_1:=c2_1 BK251.out;have hfz59_0:=blk_frozen BK251.out 0;have hfz59_1:=blk_frozen BK251.out 1
                go_wp2
                go_meet
                case rel => exact ⟨_,(false),(by first | rfl | (simp;done) | (simp [*];done)),H',⟨by have:=HJ2.out;have:=HK2.out;have:=HK3.out;first | omega | exact Nat.le_refl _⟩,⟨by (try simp only [hl265000_2]);(with_reducible repeat (first | apply Kd.R_alloc | apply Kd.R_drewN | apply Kd.R_drew));exact HO_7.out⟩,⟨by (try simp only [hl265000_2]);(with_reducible repeat (first | apply Kd.R_alloc | apply Kd.R_drewN | apply Kd.R_drew));exact HO_265000.out⟩,⟨by (try simp only [hl265000_2]);(with_reducible repeat (first | apply Kd.N_alloc | apply Kd.N_drewN | apply Kd.N_drew));exact HO_265001.out⟩,⟨by (try simp only [hl265000_2]);(with_reducible repeat (first | refine blk_drewN ?_ _ | refine blk_drew ?_ | refine blk_alloc ?_ _));exact BK251.out⟩,⟨by (try simp only [hl265000_2]);(with_reducible repeat (first | refine blk_drewN ?_ _ | refine blk_drew ?_ | refine blk_alloc ?_ _));exact BK252.out⟩,⟨by (try simp only [hl265000_2]);(with_reducible repeat (first | refine blk_drewN ?_ _ | refine blk_drew ?_ | refine blk_alloc ?_ _));exact BK264.out⟩,⟨by repeat (first | (with_reducible first | exact HB.out | apply below_alloc | apply pw_below_drewN | apply below_drew1 | refine below_set ?_ GE251.out | refine below_set ?_ GE252.out | refine below_set ?_ GE264.out) | exact HB.out)⟩⟩
              case rest =>
               clear HC52;(try clear c1);(try clear c2);(try clear p2);(try clear q2);(try clear hx2);(try clear hf2);(try clear c3);(try clear c4);(try clear hx4);(try clear hf4);(try clear c5);(try clear c9);(try clear c11);(try clear c16);(try clear c19);(try clear c20);(try clear c23);(try clear c23b0);(try clear c24);(try clear c24b0);(try clear p25);(try clear q25);(try clear hx25);(try clear hf25);(try clear c26);(try clear c26b0);(try clear c27);(try clear p27);(try clear q27);(try clear hx27);(try clear hf27);(try clear c28);(try clear c33);(try clear c34);(try clear c44);(try clear hx44);(try clear hf44);(try clear c46);(try clear c46b0);(try clear c47);(try clear c47b0);(try clear c48);(try clear c48b0);(try clear c49);(try clear c50);(try clear c53);(try clear c53b0);(try clear c54);(try clear c55);(try clear c57);(try clear c58);(try clear hcz12_0);(try clear hcz12_1);(try clear hcz14_0);(try clear hcz14_1);(try clear hcz17_0);(try clear hcz17_1);(try clear hcz21_0);(try clear hcz21_1);(try clear hcz29_0);(try clear hcz29_1);(try clear hcz35_0);(try clear hcz35_1);(try clear hcz38_0);(try clear hcz38_1);(try clear hcz41_0);(try clear hcz41_1);(try clear hcz51_0);(try clear hcz51_1);(try clear hcz56_0);(try clear hcz56_1);(try clear hcz59_0);(try clear hcz59_1);(try clear hfz12_0);(try clear hfz12_1);(try clear hfz14_0);(try clear hfz14_1);(try clear hfz17_0);(try clear hfz17_1);(try clear hfz21_0);(try clear hfz21_1);(try clear hfz29_0);(try clear hfz29_1);(try clear hfz35_0);(try clear hfz35_1);(try clear hfz38_0);(try clear hfz38_1);(try clear hfz41_0);(try clear hfz41_1);(try clear hfz51_0);(try clear hfz51_1);(try clear hfz56_0);(try clear hfz56_1);(try clear hfz59_0);(try clear hfz59_1);(try clear hx25_0);(try clear hx270_0);(try clear hx27_0);(try clear hx44_0);(try clear p2);(try clear p25);(try clear p27);(try clear p270);(try clear q2);(try clear q25);(try clear q27);(try clear q270);obtain ⟨kq,x53_51,rfl,HA,HJ51,HO_7,HO_265000,HO_265001,BK251,BK252,BK264,HB⟩ := hcut
               cases kq with
               | zero => exact absurd HA.out (by simp [spec_CloseSlot.j3])
               | succ kj51 =>
                have H:=HA.out;clear HA;simp only [spec_CloseSlot.j3] at H
                by_cases c60 : x53_51 = true
                ·subst c60
                 have H1 : ((spec_l18Slot.f l0_0 l0_1 (wrap64 (a1 - x11_3))).bind fun t283 => (if t283 = true then (if 0 ≤ (wrap64 (a1 - x11_3)) then (if (wrap64 (a1 - x11_3)) < (x265001_2.length : Int) then (if (wrap64 (a1 - x11_3)) < (y265.length : Int) then (spec_CloseSlot.j4 kj51 a1 x7_2 x9_2 x10_3 x11_3 (decide (((rd_L1 x265001_2 (wrap64 (a1 - x11_3))).length : Int) < (rd y265 (wrap64 (a1 - x11_3))))) l0_0 l0_1 y265 x265001_2) else (none)) else (none)) else (none)) else (spec_CloseSlot.j4 kj51 a1 x7_2 x9_2 x10_3 x11_3 false l0_0 l0_1 y265 x265001_2))) = some (r1,r2,r3,r4):=by rw [if_pos rfl] at H;exact H
                 clear H;have H:=H1;clear H1;have HC61:=am_ H;clear H
                 go_upto_region 14 with (fail)
                 go_cut [78] (fun v78 wc => ∃ (kq : Nat) (x78_60 : Bool),v78 = .bool x78_60 ∧ Aside0 (spec_CloseSlot.j4 kq a1 x7_2 x9_2 x10_3 x11_3 x78_60 l0_0 l0_1 y265 x265001_2 = some (r1,r2,r3,r4)) ∧ Aside0 (kq ≤ kj51) ∧ Aside0 (Kd.R (Kd.int .i64) 3 wc w.heap.size (fun k_ => (w.heap.size ≤ k_) ∧ some k_ ≠ ((.slice (some ⟨go25,0,none⟩) y265.length co32) : Value).ownBlock) u7 x7_2) ∧ Aside0 (Kd.R (Kd.int .i64) 3 wc w.heap.size (fun k_ => (w.heap.size ≤ k_) ∧ some k_ ≠ (u7 : Value).ownBlock) (.slice (some ⟨go25,0,none⟩) y265.length co32) y265) ∧ Aside0 (Kd.N (Kd.slice 3 (Kd.int .i64)) 24 wc w.heap.size (fun k_ => (w.heap.size ≤ k_) ∧ some k_ ≠ (u7 : Value).ownBlock ∧ some k_ ≠ ((.slice (some ⟨go25,0,none⟩) y265.length co32) : Value).ownBlock ∧ k_ ≠ gb251 ∧ k_ ≠ gb252 ∧ k_ ≠ gb264) u265001 x265001_2) ∧ Aside0 (wc.heap[gb251]? = some (.cells #[(.slice A0_0 l0_0.length c0_0),(.slice (some ad270) l0_1.length c0_1)] 27 (0,0))) ∧ Aside0 (wc.heap[gb252]? = some (.cells #[(.slice none 0 0),(.slice none 0 0)] 27 (0,0))) ∧ Aside0 (wc.heap[gb264]? = some (.cells #[(.slice (some ⟨go25,0,none⟩) y265.length co32),u265001] 27 (0,0))) ∧ Aside0 (Below w.heap.size w wc))
                 case first =>
                  have H:=HC61.out;clear HC61;replace H:=Option.bind_eq_some_iff.mp H;obtain ⟨t283,A620,H⟩ := H;replace H : (if t283 = true then (if 0 ≤ (wrap64 (a1 - x11_3)) then (if (wrap64 (a1 - x11_3)) < (x265001_2.length : Int) then (if (wrap64 (a1 - x11_3)) < (y265.length : Int) then (spec_CloseSlot.j4 kj51 a1 x7_2 x9_2 x10_3 x11_3 (decide (((rd_L1 x265001_2 (wrap64 (a1 - x11_3))).length : Int) < (rd y265 (wrap64 (a1 - x11_3))))) l0_0 l0_1 y265 x265001_2) else (none)) else (none)) else (none)) else (spec_CloseSlot.j4 kj51 a1 x7_2 x9_2 x10_3 x11_3 false l0_0 l0_1 y265 x265001_2)) = some (r1,r2,r3,r4):=H;have A62:=am_ A620;clear A620
                  by_cases c63 : t283 = true
                  ·subst c63
                   have H1 : (if 0 ≤ (wrap64 (a1 - x11_3)) then (if (wrap64 (a1 - x11_3)) < (x265001_2.length : Int) then (if (wrap64 (a1 - x11_3)) < (y265.length : Int) then (spec_CloseSlot.j4 kj51 a1 x7_2 x9_2 x10_3 x11_3 (decide (((rd_L1 x265001_2 (wrap64 (a1 - x11_3))).length : Int) < (rd y265 (wrap64 (a1 - x11_3))))) l0_0 l0_1 y265 x265001_2) else (none)) else (none)) else (none)) = some (r1,r2,r3,r4):=by rw [if_pos rfl] at H;exact H
                   clear H;have H:=H1;clear H1;obtain ⟨ji64,hji64⟩ : ∃ j_ : Int,(wrap64 (a1 - x11_3)) = j_:=⟨_,rfl⟩
                   replace H : (if 0 ≤ (ji64) then (if (ji64) < (x265001_2.length : Int) then (if (ji64) < (y265.length : Int) then (spec_CloseSlot.j4 kj51 a1 x7_2 x9_2 x10_3 x11_3 (decide (((rd_L1 x265001_2 (ji64)).length : Int) < (rd y265 (ji64)))) l0_0 l0_1 y265 x265001_2) else (none)) else (none)) else (none)) = some (r1,r2,r3,r4):=by first | (rw [hji64] at H;exact H) | (simp only [hji64] at H ⊢;exact H)
                   (try rw [hji64] at A62);have hji64w : (IntKind.i64.wrap (a1 - x11_3)) = ji64:=(i64_w _).trans hji64
                   by_cases c65 : 0 ≤ (ji64)
                   ·rw [if_pos c65] at H;have c65b0 : decide (0 ≤ (ji64)) = true:=decide_eq_true c65;clear c65
                    (first | rw [c65b0] | (simp only [i64_w,i32_w];rw [c65b0]) | skip)
                    by_cases c66 : (ji64) < (x265001_2.length : Int)
                    ·rw [if_pos c66] at H;have c66b0 : decide ((ji64) < (x265001_2.length : Int)) = true:=decide_eq_true c66;clear c66
                     by_cases c67 : (ji64) < (y265.length : Int)
                     ·rw [if_pos c67] at H;have c67b0 : decide ((ji64) < (y265.length : Int)) = true:=decide_eq_true c67;clear c67;have H':=am_ H;clear H
                      try go_wp2
                      have n0_:=am_ (Kd.R_drew HO_7.out);have n1_:=am_ (Kd.R_drew HO_265000.out);have n2_:=am_ (Kd.N_drew HO_265001.out);have n3_:=am_ (blk_drew BK251.out);have n4_:=am_ (blk_drew BK252.out);have n5_:=am_ (blk_drew BK264.out);have n6_:=am_ (below_drew1 HB.out);clear HO_7;clear HO_265000;clear HO_265001;clear BK251;clear BK252;clear BK264;clear HB;have HO_7:=n0_;have HO_265000:=n1_;have HO_265001:=n2_;have BK251:=n3_;have BK252:=n4_;have BK264:=n5_;have HB:=n6_;clear n0_ n1_ n2_ n3_ n4_ n5_ n6_;have p284 : 0 ≤ ((ji64) : Int):=of_decide_eq_true (by first | (with_reducible assumption) | assumption);have q284 : (ji64) < (x265001_2.length : Int):=of_decide_eq_true (by first | (with_reducible assumption) | assumption);obtain ⟨AoN1_,coN1_,eoN1_⟩ := Kd.N_slice HO_265001.out;subst eoN1_;obtain ⟨ad284,A284_0,c284_0,e284,hx284_0,hl284_0,hi284_0⟩ := at_L1 (Kd.N_reads' HO_265001.out).2.2 (ji64) p284 q284;cases e284;obtain ⟨ce284,hce284,hMe284,hcc284⟩ := Kd.N_get HO_265001.out [] (ji64) p284 (by first | exact q284 | exact of_decide_eq_true (by first | (with_reducible assumption) | assumption) | (have e_:=(Kd.N_reads' HO_265001.out).1;omega));obtain ⟨ua284_0,uc284_0,rfl,ul284_0,ge284_0⟩ := Kd.FK_slice_open hMe284;have hv284_0:=hcc284 0 _ rfl;rw [Nat.add_zero,show ((Kd.slice 3 (Kd.int .i64))).sz = 1 from rfl,Nat.mul_one] at hv284_0;replace hv284_0:=Option.some.inj (hv284_0.symm.trans hx284_0)
                      injection hv284_0 with hva_ hvn_ hvc_
                      rw [hva_] at ge284_0;rw [hvc_] at ul284_0;have HL284_0:=am_ (show Kd.V (Kd.int .i64) 3 _ w.heap.size _ _ (rd_L1 x265001_2 (ji64)) from Kd.V_mk ul284_0 ge284_0);clear hva_ hvn_ hvc_ ge284_0 ul284_0;clear hcc284 hce284;have HR284_0:=am_ hi284_0;have HC284_0:=am_ hl284_0;clear hi284_0 hl284_0;replace p284:=eq_true p284;replace q284:=eq_true q284;have p285 : 0 ≤ ((ji64) : Int):=of_decide_eq_true (by first | (with_reducible assumption) | assumption);have q285 : (ji64) < (y265.length : Int):=of_decide_eq_true (by first | (with_reducible assumption) | assumption);obtain ⟨ad285,e285,hx285_0⟩ := Kd.at_int (Kd.R_reads' HO_265000.out).2.2 (ji64) p285 q285;obtain rfl : (⟨go25,0,none⟩ : Addr) = ad285:=(by injection e285)
                      (first | simp only [add_plain] at hx285_0 | simp only [add_at] at hx285_0 | simp only [Addr.add,Nat.zero_add] at hx285_0 | skip)
                      replace p285:=eq_true p285;replace q285:=eq_true q285
                      refine start_ (n:=23) (S:=fun w' => w'.cell? ⟨gb251,0,none⟩ = some (.slice A0_0 l0_0.length c0_0) ∧ w'.cell? ⟨gb251,1,none⟩ = some (.slice (some ad270) l0_1.length c0_1) ∧ w'.cell? ⟨gb264,0,none⟩ = some (.slice (some ⟨go25,0,none⟩) y265.length co32) ∧ w'.cell? ⟨gb264,1,none⟩ = some ((.slice (some ad284) x265001_2.length coN1_)) ∧ w'.cell? (ad284.add ((ji64)).toNat) = some (.slice A284_0 (rd_L1 x265001_2 (ji64)).length c284_0) ∧ w'.cell? ⟨go25,((ji64)).toNat,none⟩ = some (.int .i64 (rd y265 (ji64)))) (ds := []) #[false,false,false,false,false,false,false,false,false,false,false,false,false,false,false,false,false,false,false,false,false,false,false] (by kernel_rfl) rfl rfl ⟨(blk_cell BK251.out 0).trans rfl,(blk_cell BK251.out 1).trans rfl,(blk_cell BK264.out 0).trans rfl,(blk_cell BK264.out 1).trans rfl,hx284_0,hx285_0⟩ (fun hHeld => ?_);refine with_tabW spec_CloseSlot.tab14 spec_CloseSlot.bits14 (fun HT_ HW_ => ?_)
                      generalize wc.drew = w68 at HO_7 HO_265000 HO_265001 BK251 BK252 BK264 HB HL284_0 HR284_0 hx284_0 hx285_0 hHeld ⊢;refine pure_ (i:=1) (N:=some 57) (v:=?_) (a':=?_) #[false,true,false,false,false,false,false,false,false,false,false,false,false,false,false,false,false,false,false,false,false,false,false] rfl rfl (any_of HT_.out (by kernel_rfl)) (fun _ _ _ h => h) (Or.inl ⟨by rfl, ?_⟩) ?_ ?_
                      rotate_left
                      ·intro w'
                       go_simp
                       with_reducible rfl
                      rotate_left
                      ·simp only [Act.put,sA_,s0_,s1_,i64_w,i32_w]
                       rfl
                      refine pure_ (i:=2) (N:=some 58) (v:=?_) (a':=?_) #[false,true,true,false,false,false,false,false,false,false,false,false,false,false,false,false,false,false,false,false,false,false,false] rfl rfl (any_of HT_.out (by kernel_rfl)) (fun _ _ _ h => h) (Or.inl ⟨by rfl, ?_⟩) ?_ ?_
                      rotate_left
                      ·intro w'
                       go_simp
                       with_reducible rfl
                      rotate_left
                      ·simp only [Act.put,sA_,s0_,s1_,i64_w,i32_w]
                       rfl
                      refine pure_ (i:=3) (N:=some 59) (v:=?_) (a':=?_) #[false,true,true,true,false,false,false,false,false,false,false,false,false,false,false,false,false,false,false,false,false,false,false] rfl rfl (any_of HT_.out (by kernel_rfl)) (fun _ _ _ h => h) (Or.inl ⟨by rfl, ?_⟩) ?_ ?_
                      rotate_left
                      ·intro w'
                       go_simp
                       with_reducible rfl
                      rotate_left
                      ·simp only [Act.put,sA_,s0_,s1_,i64_w,i32_w]
                       rfl
                      refine take_ (i:=0) (N:=some 56) (v:=?_) (a':=?_) #[true,true,true,true,false,false,false,false,false,false,false,false,false,false,false,false,false,false,false,false,false,false,false] rfl rfl (take_ofW HT_.out HW_.out (by kernel_rfl)) (fun _ _ _ h => h) (Or.inl ⟨by rfl, ?_⟩) hHeld ?_ ?_
                      rotate_left
                      ·rintro w' ⟨s0,s1,s2,s3,s4,s5⟩
                       go_simp
                       with_reducible rfl
                      rotate_left
                      ·simp only [Act.put,sA_,s0_,s1_,i64_w,i32_w]
                       rfl
                      refine one_ (i:=4) (N:=some 60) #[true,true,true,true,true,false,false,false,false,false,false,false,false,false,false,false,false,false,false,false,false,false,false] rfl rfl (one_of HT_.out (by kernel_rfl)) (by decide) (fun K hK => ?_);refine goes_ Try.func47 (by kernel_rfl) rfl #[.agg #[.slice A0_0 l0_0.length c0_0, .slice (some ad270) l0_1.length c0_1], .int .i64 ji64] (by rfl) rfl rfl (by (try simp only [List.map_toArray,List.map_cons,List.map_nil]);first | done | (simp only [hji64];rfl) | rfl | (simp only [List.length_drop,List.length_take];rfl)) ?_
                      with_reducible refine (spec_l18Slot.calls _ _ l0_0 _ _ l0_1 ji64 true _ ?side1 ?side2 ?side3 ?side4 A62.out).mono ?_
                      (case side1 => repeat (first | exact (Kd.C_below HR0_0.out HB.out) | (with_reducible refine Kd.C_alloc ?_ _) | (with_reducible refine Kd.C_drewN ?_ _) | (with_reducible refine Kd.C_drew ?_)))
                      (case side2 => exact HC0_0.out)
                      (case side3 => repeat (first | exact (Kd.C_below HR0_1.out HB.out) | (with_reducible refine Kd.C_alloc ?_ _) | (with_reducible refine Kd.C_drewN ?_ _) | (with_reducible refine Kd.C_drew ?_)))
                      (case side4 => exact HC0_1.out)
                      rintro e w69 ⟨rfl,hb⟩;have HS4_:=(hb.cell (World.block_lt_of_cell? _ _ (hHeld.2.2.2.2.1))).trans (hHeld.2.2.2.2.1);have HS5_:=(hb.cell (World.block_lt_of_cell? _ _ (hHeld.2.2.2.2.2))).trans (hHeld.2.2.2.2.2);refine ⟨_,rfl, ?_⟩;have n0_:=am_ (Kd.R_below (by (with_reducible repeat (first | apply Kd.R_alloc | apply Kd.R_drewN | apply Kd.R_drew));exact HO_7.out) hb);have n1_:=am_ (Kd.R_below (by (with_reducible repeat (first | apply Kd.R_alloc | apply Kd.R_drewN | apply Kd.R_drew));exact HO_265000.out) hb);have n2_:=am_ (Kd.N_below (by (with_reducible repeat (first | apply Kd.N_alloc | apply Kd.N_drewN | apply Kd.N_drew));exact HO_265001.out) hb);have n3_:=am_ (blk_below (g:=gb251) (o := .cells #[.slice A0_0 l0_0.length c0_0, .slice (some ad270) l0_1.length c0_1] 27 (0,0)) (by (with_reducible repeat (first | refine blk_drewN ?_ _ | refine blk_drew ?_ | refine blk_alloc ?_ _));exact BK251.out) hb);have n4_:=am_ (blk_below (g:=gb252) (o := .cells #[.slice none 0 0, .slice none 0 0] 27 (0,0)) (by (with_reducible repeat (first | refine blk_drewN ?_ _ | refine blk_drew ?_ | refine blk_alloc ?_ _));exact BK252.out) hb);have n5_:=am_ (blk_below (g:=gb264) (o := .cells #[.slice (some ⟨go25,0,none⟩) y265.length co32,(.slice (some ad284) x265001_2.length coN1_)] 27 (0,0)) (by (with_reducible repeat (first | refine blk_drewN ?_ _ | refine blk_drew ?_ | refine blk_alloc ?_ _));exact BK264.out) hb);have n6_:=am_ (below_step (by repeat (first | (with_reducible first | exact HB.out | apply below_alloc | apply pw_below_drewN | apply below_drew1 | refine below_set ?_ GE251.out | refine below_set ?_ GE252.out | refine below_set ?_ GE264.out) | exact HB.out)) hb);clear HO_7;clear HO_265000;clear HO_265001;clear BK251;clear BK252;clear BK264;clear HB;have HO_7:=n0_;have HO_265000:=n1_;have HO_265001:=n2_;have BK251:=n3_;have BK252:=n4_;have BK264:=n5_;have HB:=n6_;clear n0_ n1_ n2_ n3_ n4_ n5_ n6_;(try clear hb);(try clear hb2);(try clear hk);(try clear hi);obtain ⟨Ao70,co70,eo70⟩ := Kd.N_slice HO_265001.out
                      (first | subst eo70 | (injection eo70 with f1_ f2_ f3_;have f4_:=f1_.symm;have f5_:=f3_.symm;clear f1_ f2_ f3_;subst f4_;subst f5_))
                      refine hK.out _ _ ⟨(blk_cell BK251.out 0).trans rfl,(blk_cell BK251.out 1).trans rfl,(blk_cell BK264.out 0).trans rfl,(blk_cell BK264.out 1).trans rfl,HS4_,HS5_⟩ (fun hHeld => ?_);clear hK K;refine norm_ (a':=?_) ?_ ?_
                      rotate_left
                      ·show Act.put _ (some 60) _ = _
                       simp only [Act.put,sA_,s0_,s1_,i64_w,i32_w]
                       rfl
                      refine pure_ (i:=5) (N:=some 61) (v:=?_) (a':=?_) #[true,true,true,true,true,true,false,false,false,false,false,false,false,false,false,false,false,false,false,false,false,false,false] rfl rfl (any_of HT_.out (by kernel_rfl)) (fun _ _ _ h => h) (Or.inl ⟨by rfl, ?_⟩) ?_ ?_
                      rotate_left
                      ·intro w'
                       go_simp
                       with_reducible rfl
                      rotate_left
                      ·simp only [Act.put,sA_,s0_,s1_,i64_w,i32_w]
                       rfl
                      refine pure_ (i:=6) (N:=some 62) (v:=?_) (a':=?_) #[true,true,true,true,true,true,true,false,false,false,false,false,false,false,false,false,false,false,false,false,false,false,false] rfl rfl (any_of HT_.out (by kernel_rfl)) (fun _ _ _ h => h) (Or.inl ⟨by rfl, ?_⟩) ?_ ?_
                      rotate_left
                      ·intro w'
                       go_simp
                       with_reducible rfl
                      rotate_left
                      ·simp only [Act.put,sA_,s0_,s1_,i64_w,i32_w]
                       rfl
                      refine pure_ (i:=8) (N:=some 64) (v:=?_) (a':=?_) #[true,true,true,true,true,true,true,false,true,false,false,false,false,false,false,false,false,false,false,false,false,false,false] rfl rfl (any_of HT_.out (by kernel_rfl)) (fun _ _ _ h => h) (Or.inl ⟨by rfl, ?_⟩) ?_ ?_
                      rotate_left
                      ·intro w'
                       go_simp
                       with_reducible rfl
                      rotate_left
                      ·simp only [Act.put,sA_,s0_,s1_,i64_w,i32_w]
                       rfl
                      refine pure_ (i:=9) (N:=some 65) (v:=?_) (a':=?_) #[true,true,true,true,true,true,true,false,true,true,false,false,false,false,false,false,false,false,false,false,false,false,false] rfl rfl (any_of HT_.out (by kernel_rfl)) (fun _ _ _ h => h) (Or.inl ⟨by rfl, ?_⟩) ?_ ?_
                      rotate_left
                      ·intro w'
                       go_simp
                       with_reducible rfl
                      rotate_left
                      ·simp only [Act.put,sA_,s0_,s1_,i64_w,i32_w]
                       rfl
                      refine pure_ (i:=10) (N:=some 66) (v:=?_) (a':=?_) #[true,true,true,true,true,true,true,false,true,true,true,false,false,false,false,false,false,false,false,false,false,false,false] rfl rfl (any_of HT_.out (by kernel_rfl)) (fun _ _ _ h => h) (Or.inl ⟨by rfl, ?_⟩) ?_ ?_
                      rotate_left
                      ·intro w'
                       go_simp
                       with_reducible rfl
                      rotate_left
                      ·simp only [Act.put,sA_,s0_,s1_,i64_w,i32_w]
                       rfl
                      refine pure_ (i:=14) (N:=some 70) (v:=?_) (a':=?_) #[true,true,true,true,true,true,true,false,true,true,true,false,false,false,true,false,false,false,false,false,false,false,false] rfl rfl (any_of HT_.out (by kernel_rfl)) (fun _ _ _ h => h) (Or.inl ⟨by rfl, ?_⟩) ?_ ?_
                      rotate_left
                      ·intro w'
                       go_simp
                       with_reducible rfl
                      rotate_left
                      ·simp only [Act.put,sA_,s0_,s1_,i64_w,i32_w]
                       rfl
                      refine pure_ (i:=16) (N:=some 72) (v:=?_) (a':=?_) #[true,true,true,true,true,true,true,false,true,true,true,false,false,false,true,false,true,false,false,false,false,false,false] rfl rfl (any_of HT_.out (by kernel_rfl)) (fun _ _ _ h => h) (Or.inl ⟨by rfl, ?_⟩) ?_ ?_
                      rotate_left
                      ·intro w'
                       go_simp
                       with_reducible rfl
                      rotate_left
                      ·simp only [Act.put,sA_,s0_,s1_,i64_w,i32_w]
                       rfl
                      refine pure_ (i:=17) (N:=some 73) (v:=?_) (a':=?_) #[true,true,true,true,true,true,true,false,true,true,true,false,false,false,true,false,true,true,false,false,false,false,false] rfl rfl (any_of HT_.out (by kernel_rfl)) (fun _ _ _ h => h) (Or.inl ⟨by rfl, ?_⟩) ?_ ?_
                      rotate_left
                      ·intro w'
                       go_simp
                       with_reducible rfl
                      rotate_left
                      ·simp only [Act.put,sA_,s0_,s1_,i64_w,i32_w]
                       rfl
                      refine pure_ (i:=18) (N:=some 74) (v:=?_) (a':=?_) #[true,true,true,true,true,true,true,false,true,true,true,false,false,false,true,false,true,true,true,false,false,false,false] rfl rfl (any_of HT_.out (by kernel_rfl)) (fun _ _ _ h => h) (Or.inl ⟨by rfl, ?_⟩) ?_ ?_
                      rotate_left
                      ·intro w'
                       go_simp
                       with_reducible rfl
                      rotate_left
                      ·simp only [Act.put,sA_,s0_,s1_,i64_w,i32_w]
                       rfl
                      refine take_ (i:=7) (N:=some 63) (v:=?_) (a':=?_) #[true,true,true,true,true,true,true,true,true,true,true,false,false,false,true,false,true,true,true,false,false,false,false] rfl rfl (take_ofW HT_.out HW_.out (by kernel_rfl)) (fun _ _ _ h => h) (Or.inl ⟨by rfl, ?_⟩) hHeld ?_ ?_
                      rotate_left
                      ·rintro w' ⟨s0,s1,s2,s3,s4,s5⟩
                       go_simp
                       with_reducible rfl
                      rotate_left
                      ·simp only [Act.put,sA_,s0_,s1_,i64_w,i32_w]
                       rfl
                      refine pure_ (i:=11) (N:=some 67) (v:=?_) (a':=?_) #[true,true,true,true,true,true,true,true,true,true,true,true,false,false,true,false,true,true,true,false,false,false,false] rfl rfl (any_of HT_.out (by kernel_rfl)) (fun _ _ _ h => h) (Or.inl ⟨by rfl, ?_⟩) ?_ ?_
                      rotate_left
                      ·intro w'
                       go_simp
                       with_reducible rfl
                      rotate_left
                      ·simp only [Act.put,sA_,s0_,s1_,i64_w,i32_w]
                       rfl
                      refine take_ (i:=12) (N:=some 68) (v:=?_) (a':=?_) #[true,true,true,true,true,true,true,true,true,true,true,true,true,false,true,false,true,true,true,false,false,false,false] rfl rfl (take_ofW HT_.out HW_.out (by kernel_rfl)) (fun _ _ _ h => h) (Or.inl ⟨by rfl, ?_⟩) hHeld ?_ ?_
                      rotate_left
                      ·rintro w' ⟨s0,s1,s2,s3,s4,s5⟩
                       go_simp
                       with_reducible rfl
                      rotate_left
                      ·simp only [Act.put,sA_,s0_,s1_,i64_w,i32_w]
                       rfl
                      refine pure_ (i:=13) (N:=some 69) (v:=?_) (a':=?_) #[true,true,true,true,true,true,true,true,true,true,true,true,true,true,true,false,true,true,true,false,false,false,false] rfl rfl (any_of HT_.out (by kernel_rfl)) (fun _ _ _ h => h) (Or.inl ⟨by rfl, ?_⟩) ?_ ?_
                      rotate_left
                      ·intro w'
                       go_simp
                       with_reducible rfl
                      rotate_left
                      ·simp only [Act.put,sA_,s0_,s1_,i64_w,i32_w]
                       rfl
                      refine take_ (i:=15) (N:=some 71) (v:=?_) (a':=?_) #[true,true,true,true,true,true,true,true,true,true,true,true,true,true,true,true,true,true,true,false,false,false,false] rfl rfl (take_ofW HT_.out HW_.out (by kernel_rfl)) (fun _ _ _ h => h) (Or.inl ⟨by rfl, ?_⟩) hHeld ?_ ?_
                      rotate_left
                      ·rintro w' ⟨s0,s1,s2,s3,s4,s5⟩
                       go_simp
                       with_reducible rfl
                      rotate_left
                      ·simp only [Act.put,sA_,s0_,s1_,i64_w,i32_w]
                       rfl
                      refine pure_ (i:=19) (N:=some 75) (v:=?_) (a':=?_) #[true,true,true,true,true,true,true,true,true,true,true,true,true,true,true,true,true,true,true,true,false,false,false] rfl rfl (any_of HT_.out (by kernel_rfl)) (fun _ _ _ h => h) (Or.inl ⟨by rfl, ?_⟩) ?_ ?_
                      rotate_left
                      ·intro w'
                       go_simp
                       with_reducible rfl
                      rotate_left
                      ·simp only [Act.put,sA_,s0_,s1_,i64_w,i32_w]
                       rfl
                      refine take_ (i:=20) (N:=some 76) (v:=?_) (a':=?_) #[true,true,true,true,true,true,true,true,true,true,true,true,true,true,true,true,true,true,true,true,true,false,false] rfl rfl (take_ofW HT_.out HW_.out (by kernel_rfl)) (fun _ _ _ h => h) (Or.inl ⟨by rfl, ?_⟩) hHeld ?_ ?_
                      rotate_left
                      ·rintro w' ⟨s0,s1,s2,s3,s4,s5⟩
                       go_simp
                       with_reducible rfl
                      rotate_left
                      ·simp only [Act.put,sA_,s0_,s1_,i64_w,i32_w]
                       rfl
                      refine pure_ (i:=21) (N:=some 77) (v:=?_) (a':=?_) #[true,true,true,true,true,true,true,true,true,true,true,true,true,true,true,true,true,true,true,true,true,true,false] rfl rfl (any_of HT_.out (by kernel_rfl)) (fun _ _ _ h => h) (Or.inl ⟨by rfl, ?_⟩) ?_ ?_
                      rotate_left
                      ·intro w'
                       go_simp
                       with_reducible rfl
                      rotate_left
                      ·simp only [Act.put,sA_,s0_,s1_,i64_w,i32_w]
                       rfl
                      refine pure_ (i:=22) (N:=some 78) (v:=?_) (a':=?_) #[true,true,true,true,true,true,true,true,true,true,true,true,true,true,true,true,true,true,true,true,true,true,true] rfl rfl (any_of HT_.out (by kernel_rfl)) (fun _ _ _ h => h) (Or.inl ⟨by rfl, ?_⟩) ?_ ?_
                      rotate_left
                      ·intro w'
                       go_simp
                       with_reducible rfl
                      rotate_left
                      ·simp only [Act.put,sA_,s0_,s1_,i64_w,i32_w]
                       rfl
                      refine done_ (done_of HT_.out (by kernel_rfl)) ?_
                      try go_wp2
                      go_meet
                      case rel => exact ⟨_,(decide (((rd_L1 x265001_2 (ji64)).length : Int) < (rd y265 (ji64)))),(by first | rfl | (simp;done) | (simp only [← hji64] <;> (first | rfl | simp)) | (simp [*];done)),H',⟨by have:=HJ2.out;have:=HK2.out;have:=HK3.out;have:=HJ51.out;first | omega | exact Nat.le_refl _⟩,⟨by (try simp only [hl265000_2]);(with_reducible repeat (first | apply Kd.R_alloc | apply Kd.R_drewN | apply Kd.R_drew));exact HO_7.out⟩,⟨by (try simp only [hl265000_2]);(with_reducible repeat (first | apply Kd.R_alloc | apply Kd.R_drewN | apply Kd.R_drew));exact HO_265000.out⟩,⟨by (try simp only [hl265000_2]);(with_reducible repeat (first | apply Kd.N_alloc | apply Kd.N_drewN | apply Kd.N_drew));exact HO_265001.out⟩,⟨by (try simp only [hl265000_2]);(with_reducible repeat (first | refine blk_drewN ?_ _ | refine blk_drew ?_ | refine blk_alloc ?_ _));exact BK251.out⟩,⟨by (try simp only [hl265000_2]);(with_reducible repeat (first | refine blk_drewN ?_ _ | refine blk_drew ?_ | refine blk_alloc ?_ _));exact BK252.out⟩,⟨by (try simp only [hl265000_2]);(with_reducible repeat (first | refine blk_drewN ?_ _ | refine blk_drew ?_ | refine blk_alloc ?_ _));exact BK264.out⟩,⟨by repeat (first | (with_reducible first | exact HB.out | apply below_alloc | apply pw_below_drewN | apply below_drew1 | refine below_set ?_ GE251.out | refine below_set ?_ GE252.out | refine below_set ?_ GE264.out) | exact HB.out)⟩⟩
                     ·rw [if_neg c67] at H
                      exact absurd H (by simp)
                    ·rw [if_neg c66] at H
                     exact absurd H (by simp)
                   ·rw [if_neg c65] at H
                    exact absurd H (by simp)
                  ·replace c63:=Bool.eq_false_iff.mpr c63;subst c63
                   have H1 : (spec_CloseSlot.j4 kj51 a1 x7_2 x9_2 x10_3 x11_3 false l0_0 l0_1 y265 x265001_2) = some (r1,r2,r3,r4):=by rw [if_neg (show ¬ (false = true) by decide)] at H;exact H
                   clear H;have H:=H1;clear H1;have H':=am_ H;clear H
                   try go_wp2
                   have n0_:=am_ (Kd.R_drew HO_7.out);have n1_:=am_ (Kd.R_drew HO_265000.out);have n2_:=am_ (Kd.N_drew HO_265001.out);have n3_:=am_ (blk_drew BK251.out);have n4_:=am_ (blk_drew BK252.out);have n5_:=am_ (blk_drew BK264.out);have n6_:=am_ (below_drew1 HB.out);clear HO_7;clear HO_265000;clear HO_265001;clear BK251;clear BK252;clear BK264;clear HB;have HO_7:=n0_;have HO_265000:=n1_;have HO_265001:=n2_;have BK251:=n3_;have BK252:=n4_;have BK264:=n5_;have HB:=n6_;clear n0_ n1_ n2_ n3_ n4_ n5_ n6_
                   refine start_ (n:=23) (S:=fun w' => w'.cell? ⟨gb251,0,none⟩ = some (.slice A0_0 l0_0.length c0_0) ∧ w'.cell? ⟨gb251,1,none⟩ = some (.slice (some ad270) l0_1.length c0_1)) (ds := []) #[false,false,false,false,false,false,false,false,false,false,false,false,false,false,false,false,false,false,false,false,false,false,false] (by kernel_rfl) rfl rfl ⟨(blk_cell BK251.out 0).trans rfl,(blk_cell BK251.out 1).trans rfl⟩ (fun hHeld => ?_);refine with_tabW spec_CloseSlot.tab14 spec_CloseSlot.bits14 (fun HT_ HW_ => ?_)
                   generalize wc.drew = w71 at HO_7 HO_265000 HO_265001 BK251 BK252 BK264 HB hHeld ⊢;refine pure_ (i:=1) (N:=some 57) (v:=?_) (a':=?_) #[false,true,false,false,false,false,false,false,false,false,false,false,false,false,false,false,false,false,false,false,false,false,false] rfl rfl (any_of HT_.out (by kernel_rfl)) (fun _ _ _ h => h) (Or.inl ⟨by rfl, ?_⟩) ?_ ?_
                   rotate_left
                   ·intro w'
                    go_simp
                    with_reducible rfl
                   rotate_left
                   ·simp only [Act.put,sA_,s0_,s1_,i64_w,i32_w]
                    rfl
                   refine pure_ (i:=2) (N:=some 58) (v:=?_) (a':=?_) #[false,true,true,false,false,false,false,false,false,false,false,false,false,false,false,false,false,false,false,false,false,false,false] rfl rfl (any_of HT_.out (by kernel_rfl)) (fun _ _ _ h => h) (Or.inl ⟨by rfl, ?_⟩) ?_ ?_
                   rotate_left
                   ·intro w'
                    go_simp
                    with_reducible rfl
                   rotate_left
                   ·simp only [Act.put,sA_,s0_,s1_,i64_w,i32_w]
                    rfl
                   refine pure_ (i:=3) (N:=some 59) (v:=?_) (a':=?_) #[false,true,true,true,false,false,false,false,false,false,false,false,false,false,false,false,false,false,false,false,false,false,false] rfl rfl (any_of HT_.out (by kernel_rfl)) (fun _ _ _ h => h) (Or.inl ⟨by rfl, ?_⟩) ?_ ?_
                   rotate_left
                   ·intro w'
                    go_simp
                    with_reducible rfl
                   rotate_left
                   ·simp only [Act.put,sA_,s0_,s1_,i64_w,i32_w]
                    rfl
                   refine take_ (i:=0) (N:=some 56) (v:=?_) (a':=?_) #[true,true,true,true,false,false,false,false,false,false,false,false,false,false,false,false,false,false,false,false,false,false,false] rfl rfl (take_ofW HT_.out HW_.out (by kernel_rfl)) (fun _ _ _ h => h) (Or.inl ⟨by rfl, ?_⟩) hHeld ?_ ?_
                   rotate_left
                   ·rintro w' ⟨s0,s1⟩
                    go_simp
                    with_reducible rfl
                   rotate_left
                   ·simp only [Act.put,sA_,s0_,s1_,i64_w,i32_w]
                    rfl
                   refine one_ (i:=4) (N:=some 60) #[true,true,true,true,true,false,false,false,false,false,false,false,false,false,false,false,false,false,false,false,false,false,false] rfl rfl (one_of HT_.out (by kernel_rfl)) (by decide) (fun K hK => ?_);refine goes_ Try.func47 (by kernel_rfl) rfl #[.agg #[.slice A0_0 l0_0.length c0_0, .slice (some ad270) l0_1.length c0_1], .int .i64 (wrap64 (a1 - x11_3))] (by rfl) rfl rfl (by (try simp only [List.map_toArray,List.map_cons,List.map_nil]);first | done | rfl | (simp only [List.length_drop,List.length_take];rfl)) ?_
                   with_reducible refine (spec_l18Slot.calls _ _ l0_0 _ _ l0_1 (wrap64 (a1 - x11_3)) false _ ?side1 ?side2 ?side3 ?side4 A62.out).mono ?_
                   (case side1 => repeat (first | exact (Kd.C_below HR0_0.out HB.out) | (with_reducible refine Kd.C_alloc ?_ _) | (with_reducible refine Kd.C_drewN ?_ _) | (with_reducible refine Kd.C_drew ?_)))
                   (case side2 => exact HC0_0.out)
                   (case side3 => repeat (first | exact (Kd.C_below HR0_1.out HB.out) | (with_reducible refine Kd.C_alloc ?_ _) | (with_reducible refine Kd.C_drewN ?_ _) | (with_reducible refine Kd.C_drew ?_)))
                   (case side4 => exact HC0_1.out)
                   rintro e w72 ⟨rfl,hb⟩;refine ⟨_,rfl, ?_⟩;have n0_:=am_ (Kd.R_below (by (with_reducible repeat (first | apply Kd.R_alloc | apply Kd.R_drewN | apply Kd.R_drew));exact HO_7.out) hb);have n1_:=am_ (Kd.R_below (by (with_reducible repeat (first | apply Kd.R_alloc | apply Kd.R_drewN | apply Kd.R_drew));exact HO_265000.out) hb);have n2_:=am_ (Kd.N_below (by (with_reducible repeat (first | apply Kd.N_alloc | apply Kd.N_drewN | apply Kd.N_drew));exact HO_265001.out) hb);have n3_:=am_ (blk_below (g:=gb251) (o := .cells #[.slice A0_0 l0_0.length c0_0, .slice (some ad270) l0_1.length c0_1] 27 (0,0)) (by (with_reducible repeat (first | refine blk_drewN ?_ _ | refine blk_drew ?_ | refine blk_alloc ?_ _));exact BK251.out) hb);have n4_:=am_ (blk_below (g:=gb252) (o := .cells #[.slice none 0 0, .slice none 0 0] 27 (0,0)) (by (with_reducible repeat (first | refine blk_drewN ?_ _ | refine blk_drew ?_ | refine blk_alloc ?_ _));exact BK252.out) hb);have n5_:=am_ (blk_below (g:=gb264) (o := .cells #[.slice (some ⟨go25,0,none⟩) y265.length co32,u265001] 27 (0,0)) (by (with_reducible repeat (first | refine blk_drewN ?_ _ | refine blk_drew ?_ | refine blk_alloc ?_ _));exact BK264.out) hb);have n6_:=am_ (below_step (by repeat (first | (with_reducible first | exact HB.out | apply below_alloc | apply pw_below_drewN | apply below_drew1 | refine below_set ?_ GE251.out | refine below_set ?_ GE252.out | refine below_set ?_ GE264.out) | exact HB.out)) hb);clear HO_7;clear HO_265000;clear HO_265001;clear BK251;clear BK252;clear BK264;clear HB;have HO_7:=n0_;have HO_265000:=n1_;have HO_265001:=n2_;have BK251:=n3_;have BK252:=n4_;have BK264:=n5_;have HB:=n6_;clear n0_ n1_ n2_ n3_ n4_ n5_ n6_;(try clear hb);(try clear hb2);(try clear hk);(try clear hi);refine hK.out _ _ ⟨(blk_cell BK251.out 0).trans rfl,(blk_cell BK251.out 1).trans rfl⟩ (fun hHeld => ?_);clear hK K;refine norm_ (a':=?_) ?_ ?_
                   rotate_left
                   ·show Act.put _ (some 60) _ = _
                    simp only [Act.put,sA_,s0_,s1_,i64_w,i32_w]
                    rfl
                   refine pure_ (i:=5) (N:=some 61) (v:=?_) (a':=?_) #[true,true,true,true,true,true,false,false,false,false,false,false,false,false,false,false,false,false,false,false,false,false,false] rfl rfl (any_of HT_.out (by kernel_rfl)) (fun _ _ _ h => h) (Or.inl ⟨by rfl, ?_⟩) ?_ ?_
                   rotate_left
                   ·intro w'
                    go_simp
                    with_reducible rfl
                   rotate_left
                   ·simp only [Act.put,sA_,s0_,s1_,i64_w,i32_w]
                    rfl
                   refine pure_ (i:=6) (N:=some 62) (v:=undef) (a':=?_) #[true,true,true,true,true,true,true,false,false,false,false,false,false,false,false,false,false,false,false,false,false,false,false] rfl rfl (any_of HT_.out (by kernel_rfl)) (fun _ _ _ h => h) (Or.inr ⟨by rfl,rfl⟩) ?_ ?_
                   rotate_left
                   ·simp only [Act.put,sA_,s0_,s1_,i64_w,i32_w]
                    rfl
                   refine pure_ (i:=7) (N:=some 63) (v:=undef) (a':=?_) #[true,true,true,true,true,true,true,true,false,false,false,false,false,false,false,false,false,false,false,false,false,false,false] rfl rfl (any_of HT_.out (by kernel_rfl)) (fun _ _ _ h => h) (Or.inr ⟨by rfl,rfl⟩) ?_ ?_
                   rotate_left
                   ·simp only [Act.put,sA_,s0_,s1_,i64_w,i32_w]
                    rfl
                   refine pure_ (i:=8) (N:=some 64) (v:=undef) (a':=?_) #[true,true,true,true,true,true,true,true,true,false,false,false,false,false,false,false,false,false,false,false,false,false,false] rfl rfl (any_of HT_.out (by kernel_rfl)) (fun _ _ _ h => h) (Or.inr ⟨by rfl,rfl⟩) ?_ ?_
                   rotate_left
                   ·simp only [Act.put,sA_,s0_,s1_,i64_w,i32_w]
                    rfl
                   refine pure_ (i:=9) (N:=some 65) (v:=undef) (a':=?_) #[true,true,true,true,true,true,true,true,true,true,false,false,false,false,false,false,false,false,false,false,false,false,false] rfl rfl (any_of HT_.out (by kernel_rfl)) (fun _ _ _ h => h) (Or.inr ⟨by rfl,rfl⟩) ?_ ?_
                   rotate_left
                   ·simp only [Act.put,sA_,s0_,s1_,i64_w,i32_w]
                    rfl
                   refine pure_ (i:=10) (N:=some 66) (v:=undef) (a':=?_) #[true,true,true,true,true,true,true,true,true,true,true,false,false,false,false,false,false,false,false,false,false,false,false] rfl rfl (any_of HT_.out (by kernel_rfl)) (fun _ _ _ h => h) (Or.inr ⟨by rfl,rfl⟩) ?_ ?_
                   rotate_left
                   ·simp only [Act.put,sA_,s0_,s1_,i64_w,i32_w]
                    rfl
                   refine pure_ (i:=11) (N:=some 67) (v:=undef) (a':=?_) #[true,true,true,true,true,true,true,true,true,true,true,true,false,false,false,false,false,false,false,false,false,false,false] rfl rfl (any_of HT_.out (by kernel_rfl)) (fun _ _ _ h => h) (Or.inr ⟨by rfl,rfl⟩) ?_ ?_
                   rotate_left
                   ·simp only [Act.put,sA_,s0_,s1_,i64_w,i32_w]
                    rfl
                   refine pure_ (i:=12) (N:=some 68) (v:=undef) (a':=?_) #[true,true,true,true,true,true,true,true,true,true,true,true,true,false,false,false,false,false,false,false,false,false,false] rfl rfl (any_of HT_.out (by kernel_rfl)) (fun _ _ _ h => h) (Or.inr ⟨by rfl,rfl⟩) ?_ ?_
                   rotate_left
                   ·simp only [Act.put,sA_,s0_,s1_,i64_w,i32_w]
                    rfl
                   refine pure_ (i:=13) (N:=some 69) (v:=undef) (a':=?_) #[true,true,true,true,true,true,true,true,true,true,true,true,true,true,false,false,false,false,false,false,false,false,false] rfl rfl (any_of HT_.out (by kernel_rfl)) (fun _ _ _ h => h) (Or.inr ⟨by rfl,rfl⟩) ?_ ?_
                   rotate_left
                   ·simp only [Act.put,sA_,s0_,s1_,i64_w,i32_w]
                    rfl
                   refine pure_ (i:=14) (N:=some 70) (v:=undef) (a':=?_) #[true,true,true,true,true,true,true,true,true,true,true,true,true,true,true,false,false,false,false,false,false,false,false] rfl rfl (any_of HT_.out (by kernel_rfl)) (fun _ _ _ h => h) (Or.inr ⟨by rfl,rfl⟩) ?_ ?_
                   rotate_left
                   ·simp only [Act.put,sA_,s0_,s1_,i64_w,i32_w]
                    rfl
                   refine pure_ (i:=15) (N:=some 71) (v:=undef) (a':=?_) #[true,true,true,true,true,true,true,true,true,true,true,true,true,true,true,true,false,false,false,false,false,false,false] rfl rfl (any_of HT_.out (by kernel_rfl)) (fun _ _ _ h => h) (Or.inr ⟨by rfl,rfl⟩) ?_ ?_
                   rotate_left
                   ·simp only [Act.put,sA_,s0_,s1_,i64_w,i32_w]
                    rfl
                   refine pure_ (i:=16) (N:=some 72) (v:=undef) (a':=?_) #[true,true,true,true,true,true,true,true,true,true,true,true,true,true,true,true,true,false,false,false,false,false,false] rfl rfl (any_of HT_.out (by kernel_rfl)) (fun _ _ _ h => h) (Or.inr ⟨by rfl,rfl⟩) ?_ ?_
                   rotate_left
                   ·simp only [Act.put,sA_,s0_,s1_,i64_w,i32_w]
                    rfl
                   refine pure_ (i:=17) (N:=some 73) (v:=undef) (a':=?_) #[true,true,true,true,true,true,true,true,true,true,true,true,true,true,true,true,true,true,false,false,false,false,false] rfl rfl (any_of HT_.out (by kernel_rfl)) (fun _ _ _ h => h) (Or.inr ⟨by rfl,rfl⟩) ?_ ?_
                   rotate_left
                   ·simp only [Act.put,sA_,s0_,s1_,i64_w,i32_w]
                    rfl
                   refine pure_ (i:=18) (N:=some 74) (v:=undef) (a':=?_) #[true,true,true,true,true,true,true,true,true,true,true,true,true,true,true,true,true,true,true,false,false,false,false] rfl rfl (any_of HT_.out (by kernel_rfl)) (fun _ _ _ h => h) (Or.inr ⟨by rfl,rfl⟩) ?_ ?_
                   rotate_left
                   ·simp only [Act.put,sA_,s0_,s1_,i64_w,i32_w]
                    rfl
                   refine pure_ (i:=19) (N:=some 75) (v:=undef) (a':=?_) #[true,true,true,true,true,true,true,true,true,true,true,true,true,true,true,true,true,true,true,true,false,false,false] rfl rfl (any_of HT_.out (by kernel_rfl)) (fun _ _ _ h => h) (Or.inr ⟨by rfl,rfl⟩) ?_ ?_
                   rotate_left
                   ·simp only [Act.put,sA_,s0_,s1_,i64_w,i32_w]
                    rfl
                   refine pure_ (i:=20) (N:=some 76) (v:=undef) (a':=?_) #[true,true,true,true,true,true,true,true,true,true,true,true,true,true,true,true,true,true,true,true,true,false,false] rfl rfl (any_of HT_.out (by kernel_rfl)) (fun _ _ _ h => h) (Or.inr ⟨by rfl,rfl⟩) ?_ ?_
                   rotate_left
                   ·simp only [Act.put,sA_,s0_,s1_,i64_w,i32_w]
                    rfl
                   refine pure_ (i:=21) (N:=some 77) (v:=undef) (a':=?_) #[true,true,true,true,true,true,true,true,true,true,true,true,true,true,true,true,true,true,true,true,true,true,false] rfl rfl (any_of HT_.out (by kernel_rfl)) (fun _ _ _ h => h) (Or.inr ⟨by rfl,rfl⟩) ?_ ?_
                   rotate_left
                   ·simp only [Act.put,sA_,s0_,s1_,i64_w,i32_w]
                    rfl
                   refine pure_ (i:=22) (N:=some 78) (v:=?_) (a':=?_) #[true,true,true,true,true,true,true,true,true,true,true,true,true,true,true,true,true,true,true,true,true,true,true] rfl rfl (any_of HT_.out (by kernel_rfl)) (fun _ _ _ h => h) (Or.inl ⟨by rfl, ?_⟩) ?_ ?_
                   rotate_left
                   ·intro w'
                    go_simp
                    with_reducible rfl
                   rotate_left
                   ·simp only [Act.put,sA_,s0_,s1_,i64_w,i32_w]
                    rfl
                   refine done_ (done_of HT_.out (by kernel_rfl)) ?_
                   try go_wp2
                   go_meet
                   case rel => exact ⟨_,(false),(by first | rfl | (simp;done) | (simp [*];done)),H',⟨by have:=HJ2.out;have:=HK2.out;have:=HK3.out;have:=HJ51.out;first | omega | exact Nat.le_refl _⟩,⟨by (try simp only [hl265000_2]);(with_reducible repeat (first | apply Kd.R_alloc | apply Kd.R_drewN | apply Kd.R_drew));exact HO_7.out⟩,⟨by (try simp only [hl265000_2]);(with_reducible repeat (first | apply Kd.R_alloc | apply Kd.R_drewN | apply Kd.R_drew));exact HO_265000.out⟩,⟨by (try simp only [hl265000_2]);(with_reducible repeat (first | apply Kd.N_alloc | apply Kd.N_drewN | apply Kd.N_drew));exact HO_265001.out⟩,⟨by (try simp only [hl265000_2]);(with_reducible repeat (first | refine blk_drewN ?_ _ | refine blk_drew ?_ | refine blk_alloc ?_ _));exact BK251.out⟩,⟨by (try simp only [hl265000_2]);(with_reducible repeat (first | refine blk_drewN ?_ _ | refine blk_drew ?_ | refine blk_alloc ?_ _));exact BK252.out⟩,⟨by (try simp only [hl265000_2]);(with_reducible repeat (first | refine blk_drewN ?_ _ | refine blk_drew ?_ | refine blk_alloc ?_ _));exact BK264.out⟩,⟨by repeat (first | (with_reducible first | exact HB.out | apply below_alloc | apply pw_below_drewN | apply below_drew1 | refine below_set ?_ GE251.out | refine below_set ?_ GE252.out | refine below_set ?_ GE264.out) | exact HB.out)⟩⟩
                 case rest =>
                  clear HC61;(try clear c2);(try clear p2);(try clear q2);(try clear hx2);(try clear c4);(try clear hx4);(try clear hf4);(try clear c5);(try clear c6);(try clear p6);(try clear p25);(try clear q25);(try clear hx25);(try clear p27);(try clear q27);(try clear hx27);(try clear c28);(try clear p28);(try clear q28);(try clear hx28);(try clear c44);(try clear hx44);(try clear hf44);(try clear c46);(try clear c46b0);(try clear c47);(try clear c47b0);(try clear c48);(try clear c48b0);(try clear c49);(try clear c50);(try clear c53);(try clear c53b0);(try clear c54);(try clear c55);(try clear c57);(try clear c58);(try clear c60);(try clear c63);(try clear p64);(try clear c65);(try clear c65b0);(try clear c66);(try clear c66b0);(try clear c67);(try clear c67b0);(try clear hcz12_0);(try clear hcz12_1);(try clear hcz14_0);(try clear hcz14_1);(try clear hcz17_0);(try clear hcz17_1);(try clear hcz21_0);(try clear hcz21_1);(try clear hcz29_0);(try clear hcz29_1);(try clear hcz35_0);(try clear hcz35_1);(try clear hcz38_0);(try clear hcz38_1);(try clear hcz41_0);(try clear hcz41_1);(try clear hcz51_0);(try clear hcz51_1);(try clear hcz56_0);(try clear hcz56_1);(try clear hcz59_0);(try clear hcz59_1);(try clear hfz12_0);(try clear hfz12_1);(try clear hfz14_0);(try clear hfz14_1);(try clear hfz17_0);(try clear hfz17_1);(try clear hfz21_0);(try clear hfz21_1);(try clear hfz29_0);(try clear hfz29_1);(try clear hfz35_0);(try clear hfz35_1);(try clear hfz38_0);(try clear hfz38_1);(try clear hfz41_0);(try clear hfz41_1);(try clear hfz51_0);(try clear hfz51_1);(try clear hfz56_0);(try clear hfz56_1);(try clear hfz59_0);(try clear hfz59_1);(try clear hx25_0);(try clear hx270_0);(try clear hx27_0);(try clear hx284_0);(try clear hx285_0);(try clear hx44_0);(try clear p2);(try clear p25);(try clear p27);(try clear p270);(try clear p284);(try clear p285);(try clear q2);(try clear q25);(try clear q27);(try clear q270);(try clear q284);(try clear q285);obtain ⟨kq,x78_60,rfl,HA,HJ60,HO_7,HO_265000,HO_265001,BK251,BK252,BK264,HB⟩ := hcut
                  cases kq with
                  | zero => exact absurd HA.out (by simp [spec_CloseSlot.j4])
                  | succ kj60 =>
                   have H:=HA.out;clear HA;simp only [spec_CloseSlot.j4] at H
                   by_cases c73 : x78_60 = true
                   ·subst c73
                    have H1 : (spec_CloseSlot.l1 kj60 a1 x7_2 x9_2 (wrap64 (a1 - x11_3)) (wrap64 (x11_3 + 1)) l0_0 l0_1 y265 x265001_2) = some (r1,r2,r3,r4):=by rw [if_pos rfl] at H;exact H
                    clear H;have H:=H1;clear H1;have H':=am_ H;clear H
                    go_wp2
                    go_roundg kj60
                    case measure => have:=HJ2.out;have:=HK2.out;have:=HK3.out;have:=HJ51.out;have:=HJ60.out;omega
                    case rel => exact ⟨(wrap64 (a1 - x11_3)),(wrap64 (x11_3 + 1)),(by first | rfl | (simp;done) | (simp [*];done)),(by first | rfl | (simp;done) | (simp [*];done)),H',⟨by have:=HJ2.out;have:=HK2.out;have:=HK3.out;have:=HJ51.out;have:=HJ60.out;omega⟩,⟨by (try simp only [hl265000_2]);(with_reducible repeat (first | apply Kd.R_alloc | apply Kd.R_drewN | apply Kd.R_drew));exact HO_7.out⟩,⟨by (try simp only [hl265000_2]);(with_reducible repeat (first | apply Kd.R_alloc | apply Kd.R_drewN | apply Kd.R_drew));exact HO_265000.out⟩,⟨by (try simp only [hl265000_2]);(with_reducible repeat (first | apply Kd.N_alloc | apply Kd.N_drewN | apply Kd.N_drew));exact HO_265001.out⟩,⟨by (try simp only [hl265000_2]);(with_reducible repeat (first | refine blk_drewN ?_ _ | refine blk_drew ?_ | refine blk_alloc ?_ _));exact BK251.out⟩,⟨by (try simp only [hl265000_2]);(with_reducible repeat (first | refine blk_drewN ?_ _ | refine blk_drew ?_ | refine blk_alloc ?_ _));exact BK252.out⟩,⟨by (try simp only [hl265000_2]);(with_reducible repeat (first | refine blk_drewN ?_ _ | refine blk_drew ?_ | refine blk_alloc ?_ _));exact BK264.out⟩,⟨by repeat (first | (with_reducible first | exact HB.out | apply below_alloc | apply pw_below_drewN | apply below_drew1 | refine below_set ?_ GE251.out | refine below_set ?_ GE252.out | refine below_set ?_ GE264.out) | exact HB.out)⟩⟩
                   ·replace c73:=Bool.eq_false_iff.mpr c73;subst c73
                    have H1 : ((spec_l18Slot.f l0_0 l0_1 (wrap64 (a1 + x11_3))).bind fun t286 => (if t286 = true then (if 0 ≤ (wrap64 (a1 + x11_3)) then (if (wrap64 (a1 + x11_3)) < (x265001_2.length : Int) then (if (wrap64 (a1 + x11_3)) < (y265.length : Int) then (if ((rd_L1 x265001_2 (wrap64 (a1 + x11_3))).length : Int) < (rd y265 (wrap64 (a1 + x11_3))) then (spec_CloseSlot.l1 kj60 a1 x7_2 x9_2 (wrap64 (a1 + x11_3)) (wrap64 (x11_3 + 1)) l0_0 l0_1 y265 x265001_2) else (spec_CloseSlot.l1 kj60 a1 x7_2 x9_2 x10_3 (wrap64 (x11_3 + 1)) l0_0 l0_1 y265 x265001_2)) else (none)) else (none)) else (none)) else (spec_CloseSlot.l1 kj60 a1 x7_2 x9_2 x10_3 (wrap64 (x11_3 + 1)) l0_0 l0_1 y265 x265001_2))) = some (r1,r2,r3,r4):=by rw [if_neg (show ¬ (false = true) by decide)] at H;exact H
                    clear H;have H:=H1;clear H1;replace H:=Option.bind_eq_some_iff.mp H;obtain ⟨t286,A740,H⟩ := H;replace H : (if t286 = true then (if 0 ≤ (wrap64 (a1 + x11_3)) then (if (wrap64 (a1 + x11_3)) < (x265001_2.length : Int) then (if (wrap64 (a1 + x11_3)) < (y265.length : Int) then (if ((rd_L1 x265001_2 (wrap64 (a1 + x11_3))).length : Int) < (rd y265 (wrap64 (a1 + x11_3))) then (spec_CloseSlot.l1 kj60 a1 x7_2 x9_2 (wrap64 (a1 + x11_3)) (wrap64 (x11_3 + 1)) l0_0 l0_1 y265 x265001_2) else (spec_CloseSlot.l1 kj60 a1 x7_2 x9_2 x10_3 (wrap64 (x11_3 + 1)) l0_0 l0_1 y265 x265001_2)) else (none)) else (none)) else (none)) else (spec_CloseSlot.l1 kj60 a1 x7_2 x9_2 x10_3 (wrap64 (x11_3 + 1)) l0_0 l0_1 y265 x265001_2)) = some (r1,r2,r3,r4):=H;have A74:=am_ A740;clear A740
                    by_cases c75 : t286 = true
                    ·subst c75
                     have H1 : (if 0 ≤ (wrap64 (a1 + x11_3)) then (if (wrap64 (a1 + x11_3)) < (x265001_2.length : Int) then (if (wrap64 (a1 + x11_3)) < (y265.length : Int) then (if ((rd_L1 x265001_2 (wrap64 (a1 + x11_3))).length : Int) < (rd y265 (wrap64 (a1 + x11_3))) then (spec_CloseSlot.l1 kj60 a1 x7_2 x9_2 (wrap64 (a1 + x11_3)) (wrap64 (x11_3 + 1)) l0_0 l0_1 y265 x265001_2) else (spec_CloseSlot.l1 kj60 a1 x7_2 x9_2 x10_3 (wrap64 (x11_3 + 1)) l0_0 l0_1 y265 x265001_2)) else (none)) else (none)) else (none)) = some (r1,r2,r3,r4):=by rw [if_pos rfl] at H;exact H
                     clear H;have H:=H1;clear H1;obtain ⟨ji76,hji76⟩ : ∃ j_ : Int,(wrap64 (a1 + x11_3)) = j_:=⟨_,rfl⟩
                     replace H : (if 0 ≤ (ji76) then (if (ji76) < (x265001_2.length : Int) then (if (ji76) < (y265.length : Int) then (if ((rd_L1 x265001_2 (ji76)).length : Int) < (rd y265 (ji76)) then (spec_CloseSlot.l1 kj60 a1 x7_2 x9_2 ji76 (wrap64 (x11_3 + 1)) l0_0 l0_1 y265 x265001_2) else (spec_CloseSlot.l1 kj60 a1 x7_2 x9_2 x10_3 (wrap64 (x11_3 + 1)) l0_0 l0_1 y265 x265001_2)) else (none)) else (none)) else (none)) = some (r1,r2,r3,r4):=by first | (rw [hji76] at H;exact H) | (simp only [hji76] at H ⊢;exact H)
                     (try rw [hji76] at A74);have hji76w : (IntKind.i64.wrap (a1 + x11_3)) = ji76:=(i64_w _).trans hji76
                     by_cases c77 : 0 ≤ (ji76)
                     ·rw [if_pos c77] at H;have c77b0 : decide (0 ≤ (ji76)) = true:=decide_eq_true c77;clear c77
                      by_cases c78 : (ji76) < (x265001_2.length : Int)
                      ·rw [if_pos c78] at H;have c78b0 : decide ((ji76) < (x265001_2.length : Int)) = true:=decide_eq_true c78;clear c78
                       by_cases c79 : (ji76) < (y265.length : Int)
                       ·rw [if_pos c79] at H;have c79b0 : decide ((ji76) < (y265.length : Int)) = true:=decide_eq_true c79;clear c79
                        by_cases c80 : ((rd_L1 x265001_2 (ji76)).length : Int) < (rd y265 (ji76))
                        ·rw [if_pos c80] at H;have c80b0 : decide (((rd_L1 x265001_2 (ji76)).length : Int) < (rd y265 (ji76))) = true:=decide_eq_true c80;clear c80;have H':=am_ H;clear H
                         try go_wp2
                         have n0_:=am_ (Kd.R_drew HO_7.out);have n1_:=am_ (Kd.R_drew HO_265000.out);have n2_:=am_ (Kd.N_drew HO_265001.out);have n3_:=am_ (blk_drew BK251.out);have n4_:=am_ (blk_drew BK252.out);have n5_:=am_ (blk_drew BK264.out);have n6_:=am_ (below_drew1 HB.out);clear HO_7;clear HO_265000;clear HO_265001;clear BK251;clear BK252;clear BK264;clear HB;have HO_7:=n0_;have HO_265000:=n1_;have HO_265001:=n2_;have BK251:=n3_;have BK252:=n4_;have BK264:=n5_;have HB:=n6_;clear n0_ n1_ n2_ n3_ n4_ n5_ n6_;have p287 : 0 ≤ ((ji76) : Int):=of_decide_eq_true (by first | (with_reducible assumption) | assumption);have q287 : (ji76) < (x265001_2.length : Int):=of_decide_eq_true (by first | (with_reducible assumption) | assumption);obtain ⟨AoN2_,coN2_,eoN2_⟩ := Kd.N_slice HO_265001.out;subst eoN2_;obtain ⟨ad287,A287_0,c287_0,e287,hx287_0,hl287_0,hi287_0⟩ := at_L1 (Kd.N_reads' HO_265001.out).2.2 (ji76) p287 q287;cases e287;obtain ⟨ce287,hce287,hMe287,hcc287⟩ := Kd.N_get HO_265001.out [] (ji76) p287 (by first | exact q287 | exact of_decide_eq_true (by first | (with_reducible assumption) | assumption) | (have e_:=(Kd.N_reads' HO_265001.out).1;omega));obtain ⟨ua287_0,uc287_0,rfl,ul287_0,ge287_0⟩ := Kd.FK_slice_open hMe287;have hv287_0:=hcc287 0 _ rfl;rw [Nat.add_zero,show ((Kd.slice 3 (Kd.int .i64))).sz = 1 from rfl,Nat.mul_one] at hv287_0;replace hv287_0:=Option.some.inj (hv287_0.symm.trans hx287_0)
                         injection hv287_0 with hva_ hvn_ hvc_
                         rw [hva_] at ge287_0;rw [hvc_] at ul287_0;have HL287_0:=am_ (show Kd.V (Kd.int .i64) 3 _ w.heap.size _ _ (rd_L1 x265001_2 (ji76)) from Kd.V_mk ul287_0 ge287_0);clear hva_ hvn_ hvc_ ge287_0 ul287_0;clear hcc287 hce287;have HR287_0:=am_ hi287_0;have HC287_0:=am_ hl287_0;clear hi287_0 hl287_0;replace p287:=eq_true p287;replace q287:=eq_true q287;have p288 : 0 ≤ ((ji76) : Int):=of_decide_eq_true (by first | (with_reducible assumption) | assumption);have q288 : (ji76) < (y265.length : Int):=of_decide_eq_true (by first | (with_reducible assumption) | assumption);obtain ⟨ad288,e288,hx288_0⟩ := Kd.at_int (Kd.R_reads' HO_265000.out).2.2 (ji76) p288 q288;obtain rfl : (⟨go25,0,none⟩ : Addr) = ad288:=(by injection e288)
                         (first | simp only [add_plain] at hx288_0 | simp only [add_at] at hx288_0 | simp only [Addr.add,Nat.zero_add] at hx288_0 | skip)
                         replace p288:=eq_true p288;replace q288:=eq_true q288
                         refine start_ (n:=23) (S:=fun w' => w'.cell? ⟨gb251,0,none⟩ = some (.slice A0_0 l0_0.length c0_0) ∧ w'.cell? ⟨gb251,1,none⟩ = some (.slice (some ad270) l0_1.length c0_1) ∧ w'.cell? ⟨gb264,0,none⟩ = some (.slice (some ⟨go25,0,none⟩) y265.length co32) ∧ w'.cell? ⟨gb264,1,none⟩ = some ((.slice (some ad287) x265001_2.length coN2_)) ∧ w'.cell? (ad287.add ((ji76)).toNat) = some (.slice A287_0 (rd_L1 x265001_2 (ji76)).length c287_0) ∧ w'.cell? ⟨go25,((ji76)).toNat,none⟩ = some (.int .i64 (rd y265 (ji76)))) (ds := []) #[false,false,false,false,false,false,false,false,false,false,false,false,false,false,false,false,false,false,false,false,false,false,false] (by kernel_rfl) rfl rfl ⟨(blk_cell BK251.out 0).trans rfl,(blk_cell BK251.out 1).trans rfl,(blk_cell BK264.out 0).trans rfl,(blk_cell BK264.out 1).trans rfl,hx287_0,hx288_0⟩ (fun hHeld => ?_);refine with_tabW spec_CloseSlot.tab16 spec_CloseSlot.bits16 (fun HT_ HW_ => ?_)
                         generalize wc.drew = w81 at HO_7 HO_265000 HO_265001 BK251 BK252 BK264 HB HL287_0 HR287_0 hx287_0 hx288_0 hHeld ⊢;refine pure_ (i:=1) (N:=some 83) (v:=?_) (a':=?_) #[false,true,false,false,false,false,false,false,false,false,false,false,false,false,false,false,false,false,false,false,false,false,false] rfl rfl (any_of HT_.out (by kernel_rfl)) (fun _ _ _ h => h) (Or.inl ⟨by rfl, ?_⟩) ?_ ?_
                         rotate_left
                         ·intro w'
                          go_simp
                          with_reducible rfl
                         rotate_left
                         ·simp only [Act.put,sA_,s0_,s1_,i64_w,i32_w]
                          rfl
                         refine pure_ (i:=2) (N:=some 84) (v:=?_) (a':=?_) #[false,true,true,false,false,false,false,false,false,false,false,false,false,false,false,false,false,false,false,false,false,false,false] rfl rfl (any_of HT_.out (by kernel_rfl)) (fun _ _ _ h => h) (Or.inl ⟨by rfl, ?_⟩) ?_ ?_
                         rotate_left
                         ·intro w'
                          go_simp
                          with_reducible rfl
                         rotate_left
                         ·simp only [Act.put,sA_,s0_,s1_,i64_w,i32_w]
                          rfl
                         refine pure_ (i:=3) (N:=some 85) (v:=?_) (a':=?_) #[false,true,true,true,false,false,false,false,false,false,false,false,false,false,false,false,false,false,false,false,false,false,false] rfl rfl (any_of HT_.out (by kernel_rfl)) (fun _ _ _ h => h) (Or.inl ⟨by rfl, ?_⟩) ?_ ?_
                         rotate_left
                         ·intro w'
                          go_simp
                          with_reducible rfl
                         rotate_left
                         ·simp only [Act.put,sA_,s0_,s1_,i64_w,i32_w]
                          rfl
                         refine take_ (i:=0) (N:=some 82) (v:=?_) (a':=?_) #[true,true,true,true,false,false,false,false,false,false,false,false,false,false,false,false,false,false,false,false,false,false,false] rfl rfl (take_ofW HT_.out HW_.out (by kernel_rfl)) (fun _ _ _ h => h) (Or.inl ⟨by rfl, ?_⟩) hHeld ?_ ?_
                         rotate_left
                         ·rintro w' ⟨s0,s1,s2,s3,s4,s5⟩
                          go_simp
                          with_reducible rfl
                         rotate_left
                         ·simp only [Act.put,sA_,s0_,s1_,i64_w,i32_w]
                          rfl
                         refine one_ (i:=4) (N:=some 86) #[true,true,true,true,true,false,false,false,false,false,false,false,false,false,false,false,false,false,false,false,false,false,false] rfl rfl (one_of HT_.out (by kernel_rfl)) (by decide) (fun K hK => ?_);refine goes_ Try.func47 (by kernel_rfl) rfl #[.agg #[.slice A0_0 l0_0.length c0_0, .slice (some ad270) l0_1.length c0_1], .int .i64 ji76] (by rfl) rfl rfl (by (try simp only [List.map_toArray,List.map_cons,List.map_nil]);first | done | (simp only [hji76];rfl) | rfl | (simp only [List.length_drop,List.length_take];rfl)) ?_
                         with_reducible refine (spec_l18Slot.calls _ _ l0_0 _ _ l0_1 ji76 true _ ?side1 ?side2 ?side3 ?side4 A74.out).mono ?_
                         (case side1 => repeat (first | exact (Kd.C_below HR0_0.out HB.out) | (with_reducible refine Kd.C_alloc ?_ _) | (with_reducible refine Kd.C_drewN ?_ _) | (with_reducible refine Kd.C_drew ?_)))
                         (case side2 => exact HC0_0.out)
                         (case side3 => repeat (first | exact (Kd.C_below HR0_1.out HB.out) | (with_reducible refine Kd.C_alloc ?_ _) | (with_reducible refine Kd.C_drewN ?_ _) | (with_reducible refine Kd.C_drew ?_)))
                         (case side4 => exact HC0_1.out)
                         rintro e w82 ⟨rfl,hb⟩;have HS4_:=(hb.cell (World.block_lt_of_cell? _ _ (hHeld.2.2.2.2.1))).trans (hHeld.2.2.2.2.1);have HS5_:=(hb.cell (World.block_lt_of_cell? _ _ (hHeld.2.2.2.2.2))).trans (hHeld.2.2.2.2.2);refine ⟨_,rfl, ?_⟩;have n0_:=am_ (Kd.R_below (by (with_reducible repeat (first | apply Kd.R_alloc | apply Kd.R_drewN | apply Kd.R_drew));exact HO_7.out) hb);have n1_:=am_ (Kd.R_below (by (with_reducible repeat (first | apply Kd.R_alloc | apply Kd.R_drewN | apply Kd.R_drew));exact HO_265000.out) hb);have n2_:=am_ (Kd.N_below (by (with_reducible repeat (first | apply Kd.N_alloc | apply Kd.N_drewN | apply Kd.N_drew));exact HO_265001.out) hb);have n3_:=am_ (blk_below (g:=gb251) (o := .cells #[.slice A0_0 l0_0.length c0_0, .slice (some ad270) l0_1.length c0_1] 27 (0,0)) (by (with_reducible repeat (first | refine blk_drewN ?_ _ | refine blk_drew ?_ | refine blk_alloc ?_ _));exact BK251.out) hb);have n4_:=am_ (blk_below (g:=gb252) (o := .cells #[.slice none 0 0, .slice none 0 0] 27 (0,0)) (by (with_reducible repeat (first | refine blk_drewN ?_ _ | refine blk_drew ?_ | refine blk_alloc ?_ _));exact BK252.out) hb);have n5_:=am_ (blk_below (g:=gb264) (o := .cells #[.slice (some ⟨go25,0,none⟩) y265.length co32,(.slice (some ad287) x265001_2.length coN2_)] 27 (0,0)) (by (with_reducible repeat (first | refine blk_drewN ?_ _ | refine blk_drew ?_ | refine blk_alloc ?_ _));exact BK264.out) hb);have n6_:=am_ (below_step (by repeat (first | (with_reducible first | exact HB.out | apply below_alloc | apply pw_below_drewN | apply below_drew1 | refine below_set ?_ GE251.out | refine below_set ?_ GE252.out | refine below_set ?_ GE264.out) | exact HB.out)) hb);clear HO_7;clear HO_265000;clear HO_265001;clear BK251;clear BK252;clear BK264;clear HB;have HO_7:=n0_;have HO_265000:=n1_;have HO_265001:=n2_;have BK251:=n3_;have BK252:=n4_;have BK264:=n5_;have HB:=n6_;clear n0_ n1_ n2_ n3_ n4_ n5_ n6_;(try clear hb);(try clear hb2);(try clear hk);(try clear hi);obtain ⟨Ao83,co83,eo83⟩ := Kd.N_slice HO_265001.out
                         (first | subst eo83 | (injection eo83 with f1_ f2_ f3_;have f4_:=f1_.symm;have f5_:=f3_.symm;clear f1_ f2_ f3_;subst f4_;subst f5_))
                         refine hK.out _ _ ⟨(blk_cell BK251.out 0).trans rfl,(blk_cell BK251.out 1).trans rfl,(blk_cell BK264.out 0).trans rfl,(blk_cell BK264.out 1).trans rfl,HS4_,HS5_⟩ (fun hHeld => ?_);clear hK K;refine norm_ (a':=?_) ?_ ?_
                         rotate_left
                         ·show Act.put _ (some 86) _ = _
                          simp only [Act.put,sA_,s0_,s1_,i64_w,i32_w]
                          rfl
                         refine pure_ (i:=5) (N:=some 87) (v:=?_) (a':=?_) #[true,true,true,true,true,true,false,false,false,false,false,false,false,false,false,false,false,false,false,false,false,false,false] rfl rfl (any_of HT_.out (by kernel_rfl)) (fun _ _ _ h => h) (Or.inl ⟨by rfl, ?_⟩) ?_ ?_
                         rotate_left
                         ·intro w'
                          go_simp
                          with_reducible rfl
                         rotate_left
                         ·simp only [Act.put,sA_,s0_,s1_,i64_w,i32_w]
                          rfl
                         refine pure_ (i:=6) (N:=some 88) (v:=?_) (a':=?_) #[true,true,true,true,true,true,true,false,false,false,false,false,false,false,false,false,false,false,false,false,false,false,false] rfl rfl (any_of HT_.out (by kernel_rfl)) (fun _ _ _ h => h) (Or.inl ⟨by rfl, ?_⟩) ?_ ?_
                         rotate_left
                         ·intro w'
                          go_simp
                          with_reducible rfl
                         rotate_left
                         ·simp only [Act.put,sA_,s0_,s1_,i64_w,i32_w]
                          rfl
                         refine pure_ (i:=8) (N:=some 90) (v:=?_) (a':=?_) #[true,true,true,true,true,true,true,false,true,false,false,false,false,false,false,false,false,false,false,false,false,false,false] rfl rfl (any_of HT_.out (by kernel_rfl)) (fun _ _ _ h => h) (Or.inl ⟨by rfl, ?_⟩) ?_ ?_
                         rotate_left
                         ·intro w'
                          go_simp
                          with_reducible rfl
                         rotate_left
                         ·simp only [Act.put,sA_,s0_,s1_,i64_w,i32_w]
                          rfl
                         refine pure_ (i:=9) (N:=some 91) (v:=?_) (a':=?_) #[true,true,true,true,true,true,true,false,true,true,false,false,false,false,false,false,false,false,false,false,false,false,false] rfl rfl (any_of HT_.out (by kernel_rfl)) (fun _ _ _ h => h) (Or.inl ⟨by rfl, ?_⟩) ?_ ?_
                         rotate_left
                         ·intro w'
                          go_simp
                          with_reducible rfl
                         rotate_left
                         ·simp only [Act.put,sA_,s0_,s1_,i64_w,i32_w]
                          rfl
                         refine pure_ (i:=10) (N:=some 92) (v:=?_) (a':=?_) #[true,true,true,true,true,true,true,false,true,true,true,false,false,false,false,false,false,false,false,false,false,false,false] rfl rfl (any_of HT_.out (by kernel_rfl)) (fun _ _ _ h => h) (Or.inl ⟨by rfl, ?_⟩) ?_ ?_
                         rotate_left
                         ·intro w'
                          go_simp
                          with_reducible rfl
                         rotate_left
                         ·simp only [Act.put,sA_,s0_,s1_,i64_w,i32_w]
                          rfl
                         refine pure_ (i:=14) (N:=some 96) (v:=?_) (a':=?_) #[true,true,true,true,true,true,true,false,true,true,true,false,false,false,true,false,false,false,false,false,false,false,false] rfl rfl (any_of HT_.out (by kernel_rfl)) (fun _ _ _ h => h) (Or.inl ⟨by rfl, ?_⟩) ?_ ?_
                         rotate_left
                         ·intro w'
                          go_simp
                          with_reducible rfl
                         rotate_left
                         ·simp only [Act.put,sA_,s0_,s1_,i64_w,i32_w]
                          rfl
                         refine pure_ (i:=16) (N:=some 98) (v:=?_) (a':=?_) #[true,true,true,true,true,true,true,false,true,true,true,false,false,false,true,false,true,false,false,false,false,false,false] rfl rfl (any_of HT_.out (by kernel_rfl)) (fun _ _ _ h => h) (Or.inl ⟨by rfl, ?_⟩) ?_ ?_
                         rotate_left
                         ·intro w'
                          go_simp
                          with_reducible rfl
                         rotate_left
                         ·simp only [Act.put,sA_,s0_,s1_,i64_w,i32_w]
                          rfl
                         refine pure_ (i:=17) (N:=some 99) (v:=?_) (a':=?_) #[true,true,true,true,true,true,true,false,true,true,true,false,false,false,true,false,true,true,false,false,false,false,false] rfl rfl (any_of HT_.out (by kernel_rfl)) (fun _ _ _ h => h) (Or.inl ⟨by rfl, ?_⟩) ?_ ?_
                         rotate_left
                         ·intro w'
                          go_simp
                          with_reducible rfl
                         rotate_left
                         ·simp only [Act.put,sA_,s0_,s1_,i64_w,i32_w]
                          rfl
                         refine pure_ (i:=18) (N:=some 100) (v:=?_) (a':=?_) #[true,true,true,true,true,true,true,false,true,true,true,false,false,false,true,false,true,true,true,false,false,false,false] rfl rfl (any_of HT_.out (by kernel_rfl)) (fun _ _ _ h => h) (Or.inl ⟨by rfl, ?_⟩) ?_ ?_
                         rotate_left
                         ·intro w'
                          go_simp
                          with_reducible rfl
                         rotate_left
                         ·simp only [Act.put,sA_,s0_,s1_,i64_w,i32_w]
                          rfl
                         refine take_ (i:=7) (N:=some 89) (v:=?_) (a':=?_) #[true,true,true,true,true,true,true,true,true,true,true,false,false,false,true,false,true,true,true,false,false,false,false] rfl rfl (take_ofW HT_.out HW_.out (by kernel_rfl)) (fun _ _ _ h => h) (Or.inl ⟨by rfl, ?_⟩) hHeld ?_ ?_
                         rotate_left
                         ·rintro w' ⟨s0,s1,s2,s3,s4,s5⟩
                          go_simp
                          with_reducible rfl
                         rotate_left
                         ·simp only [Act.put,sA_,s0_,s1_,i64_w,i32_w]
                          rfl
                         refine pure_ (i:=11) (N:=some 93) (v:=?_) (a':=?_) #[true,true,true,true,true,true,true,true,true,true,true,true,false,false,true,false,true,true,true,false,false,false,false] rfl rfl (any_of HT_.out (by kernel_rfl)) (fun _ _ _ h => h) (Or.inl ⟨by rfl, ?_⟩) ?_ ?_
                         rotate_left
                         ·intro w'
                          go_simp
                          with_reducible rfl
                         rotate_left
                         ·simp only [Act.put,sA_,s0_,s1_,i64_w,i32_w]
                          rfl
                         refine take_ (i:=12) (N:=some 94) (v:=?_) (a':=?_) #[true,true,true,true,true,true,true,true,true,true,true,true,true,false,true,false,true,true,true,false,false,false,false] rfl rfl (take_ofW HT_.out HW_.out (by kernel_rfl)) (fun _ _ _ h => h) (Or.inl ⟨by rfl, ?_⟩) hHeld ?_ ?_
                         rotate_left
                         ·rintro w' ⟨s0,s1,s2,s3,s4,s5⟩
                          go_simp
                          with_reducible rfl
                         rotate_left
                         ·simp only [Act.put,sA_,s0_,s1_,i64_w,i32_w]
                          rfl
                         refine pure_ (i:=13) (N:=some 95) (v:=?_) (a':=?_) #[true,true,true,true,true,true,true,true,true,true,true,true,true,true,true,false,true,true,true,false,false,false,false] rfl rfl (any_of HT_.out (by kernel_rfl)) (fun _ _ _ h => h) (Or.inl ⟨by rfl, ?_⟩) ?_ ?_
                         rotate_left
                         ·intro w'
                          go_simp
                          with_reducible rfl
                         rotate_left
                         ·simp only [Act.put,sA_,s0_,s1_,i64_w,i32_w]
                          rfl
                         refine take_ (i:=15) (N:=some 97) (v:=?_) (a':=?_) #[true,true,true,true,true,true,true,true,true,true,true,true,true,true,true,true,true,true,true,false,false,false,false] rfl rfl (take_ofW HT_.out HW_.out (by kernel_rfl)) (fun _ _ _ h => h) (Or.inl ⟨by rfl, ?_⟩) hHeld ?_ ?_
                         rotate_left
                         ·rintro w' ⟨s0,s1,s2,s3,s4,s5⟩
                          go_simp
                          with_reducible rfl
                         rotate_left
                         ·simp only [Act.put,sA_,s0_,s1_,i64_w,i32_w]
                          rfl
                         refine pure_ (i:=19) (N:=some 101) (v:=?_) (a':=?_) #[true,true,true,true,true,true,true,true,true,true,true,true,true,true,true,true,true,true,true,true,false,false,false] rfl rfl (any_of HT_.out (by kernel_rfl)) (fun _ _ _ h => h) (Or.inl ⟨by rfl, ?_⟩) ?_ ?_
                         rotate_left
                         ·intro w'
                          go_simp
                          with_reducible rfl
                         rotate_left
                         ·simp only [Act.put,sA_,s0_,s1_,i64_w,i32_w]
                          rfl
                         refine take_ (i:=20) (N:=some 102) (v:=?_) (a':=?_) #[true,true,true,true,true,true,true,true,true,true,true,true,true,true,true,true,true,true,true,true,true,false,false] rfl rfl (take_ofW HT_.out HW_.out (by kernel_rfl)) (fun _ _ _ h => h) (Or.inl ⟨by rfl, ?_⟩) hHeld ?_ ?_
                         rotate_left
                         ·rintro w' ⟨s0,s1,s2,s3,s4,s5⟩
                          go_simp
                          with_reducible rfl
                         rotate_left
                         ·simp only [Act.put,sA_,s0_,s1_,i64_w,i32_w]
                          rfl
                         refine pure_ (i:=21) (N:=some 103) (v:=?_) (a':=?_) #[true,true,true,true,true,true,true,true,true,true,true,true,true,true,true,true,true,true,true,true,true,true,false] rfl rfl (any_of HT_.out (by kernel_rfl)) (fun _ _ _ h => h) (Or.inl ⟨by rfl, ?_⟩) ?_ ?_
                         rotate_left
                         ·intro w'
                          go_simp
                          with_reducible rfl
                         rotate_left
                         ·simp only [Act.put,sA_,s0_,s1_,i64_w,i32_w]
                          rfl
                         refine pure_ (i:=22) (N:=some 104) (v:=?_) (a':=?_) #[true,true,true,true,true,true,true,true,true,true,true,true,true,true,true,true,true,true,true,true,true,true,true] rfl rfl (any_of HT_.out (by kernel_rfl)) (fun _ _ _ h => h) (Or.inl ⟨by rfl, ?_⟩) ?_ ?_
                         rotate_left
                         ·intro w'
                          go_simp
                          with_reducible rfl
                         rotate_left
                         ·simp only [Act.put,sA_,s0_,s1_,i64_w,i32_w]
                          rfl
                         refine done_ (done_of HT_.out (by kernel_rfl)) ?_
                         try go_wp2
                         go_roundg kj60
                         case measure => have:=HJ2.out;have:=HK2.out;have:=HK3.out;have:=HJ51.out;have:=HJ60.out;omega
                         case rel => exact ⟨(ji76),(wrap64 (x11_3 + 1)),(by first | rfl | (simp;done) | (simp only [← hji76] <;> (first | rfl | simp)) | (simp [*];done)),(by first | rfl | (simp;done) | (simp [*];done)),H',⟨by have:=HJ2.out;have:=HK2.out;have:=HK3.out;have:=HJ51.out;have:=HJ60.out;omega⟩,⟨by (try simp only [hl265000_2]);(with_reducible repeat (first | apply Kd.R_alloc | apply Kd.R_drewN | apply Kd.R_drew));exact HO_7.out⟩,⟨by (try simp only [hl265000_2]);(with_reducible repeat (first | apply Kd.R_alloc | apply Kd.R_drewN | apply Kd.R_drew));exact HO_265000.out⟩,⟨by (try simp only [hl265000_2]);(with_reducible repeat (first | apply Kd.N_alloc | apply Kd.N_drewN | apply Kd.N_drew));exact HO_265001.out⟩,⟨by (try simp only [hl265000_2]);(with_reducible repeat (first | refine blk_drewN ?_ _ | refine blk_drew ?_ | refine blk_alloc ?_ _));exact BK251.out⟩,⟨by (try simp only [hl265000_2]);(with_reducible repeat (first | refine blk_drewN ?_ _ | refine blk_drew ?_ | refine blk_alloc ?_ _));exact BK252.out⟩,⟨by (try simp only [hl265000_2]);(with_reducible repeat (first | refine blk_drewN ?_ _ | refine blk_drew ?_ | refine blk_alloc ?_ _));exact BK264.out⟩,⟨by repeat (first | (with_reducible first | exact HB.out | apply below_alloc | apply pw_below_drewN | apply below_drew1 | refine below_set ?_ GE251.out | refine below_set ?_ GE252.out | refine below_set ?_ GE264.out) | exact HB.out)⟩⟩
                        ·rw [if_neg c80] at H;have c80b0 : decide (((rd_L1 x265001_2 (ji76)).length : Int) < (rd y265 (ji76))) = false:=decide_eq_false c80;clear c80;have H':=am_ H;clear H
                         try go_wp2
                         have n0_:=am_ (Kd.R_drew HO_7.out);have n1_:=am_ (Kd.R_drew HO_265000.out);have n2_:=am_ (Kd.N_drew HO_265001.out);have n3_:=am_ (blk_drew BK251.out);have n4_:=am_ (blk_drew BK252.out);have n5_:=am_ (blk_drew BK264.out);have n6_:=am_ (below_drew1 HB.out);clear HO_7;clear HO_265000;clear HO_265001;clear BK251;clear BK252;clear BK264;clear HB;have HO_7:=n0_;have HO_265000:=n1_;have HO_265001:=n2_;have BK251:=n3_;have BK252:=n4_;have BK264:=n5_;have HB:=n6_;clear n0_ n1_ n2_ n3_ n4_ n5_ n6_;have p287 : 0 ≤ ((ji76) : Int):=of_decide_eq_true (by first | (with_reducible assumption) | assumption);have q287 : (ji76) < (x265001_2.length : Int):=of_decide_eq_true (by first | (with_reducible assumption) | assumption);obtain ⟨AoN3_,coN3_,eoN3_⟩ := Kd.N_slice HO_265001.out;subst eoN3_;obtain ⟨ad287,A287_0,c287_0,e287,hx287_0,hl287_0,hi287_0⟩ := at_L1 (Kd.N_reads' HO_265001.out).2.2 (ji76) p287 q287;cases e287;obtain ⟨ce287,hce287,hMe287,hcc287⟩ := Kd.N_get HO_265001.out [] (ji76) p287 (by first | exact q287 | exact of_decide_eq_true (by first | (with_reducible assumption) | assumption) | (have e_:=(Kd.N_reads' HO_265001.out).1;omega));obtain ⟨ua287_0,uc287_0,rfl,ul287_0,ge287_0⟩ := Kd.FK_slice_open hMe287;have hv287_0:=hcc287 0 _ rfl;rw [Nat.add_zero,show ((Kd.slice 3 (Kd.int .i64))).sz = 1 from rfl,Nat.mul_one] at hv287_0;replace hv287_0:=Option.some.inj (hv287_0.symm.trans hx287_0)
                         injection hv287_0 with hva_ hvn_ hvc_
                         rw [hva_] at ge287_0;rw [hvc_] at ul287_0;have HL287_0:=am_ (show Kd.V (Kd.int .i64) 3 _ w.heap.size _ _ (rd_L1 x265001_2 (ji76)) from Kd.V_mk ul287_0 ge287_0);clear hva_ hvn_ hvc_ ge287_0 ul287_0;clear hcc287 hce287;have HR287_0:=am_ hi287_0;have HC287_0:=am_ hl287_0;clear hi287_0 hl287_0;replace p287:=eq_true p287;replace q287:=eq_true q287;have p288 : 0 ≤ ((ji76) : Int):=of_decide_eq_true (by first | (with_reducible assumption) | assumption);have q288 : (ji76) < (y265.length : Int):=of_decide_eq_true (by first | (with_reducible assumption) | assumption);obtain ⟨ad288,e288,hx288_0⟩ := Kd.at_int (Kd.R_reads' HO_265000.out).2.2 (ji76) p288 q288;obtain rfl : (⟨go25,0,none⟩ : Addr) = ad288:=(by injection e288)
                         (first | simp only [add_plain] at hx288_0 | simp only [add_at] at hx288_0 | simp only [Addr.add,Nat.zero_add] at hx288_0 | skip)
                         replace p288:=eq_true p288;replace q288:=eq_true q288
                         refine start_ (n:=23) (S:=fun w' => w'.cell? ⟨gb251,0,none⟩ = some (.slice A0_0 l0_0.length c0_0) ∧ w'.cell? ⟨gb251,1,none⟩ = some (.slice (some ad270) l0_1.length c0_1) ∧ w'.cell? ⟨gb264,0,none⟩ = some (.slice (some ⟨go25,0,none⟩) y265.length co32) ∧ w'.cell? ⟨gb264,1,none⟩ = some ((.slice (some ad287) x265001_2.length coN3_)) ∧ w'.cell? (ad287.add ((ji76)).toNat) = some (.slice A287_0 (rd_L1 x265001_2 (ji76)).length c287_0) ∧ w'.cell? ⟨go25,((ji76)).toNat,none⟩ = some (.int .i64 (rd y265 (ji76)))) (ds := []) #[false,false,false,false,false,false,false,false,false,false,false,false,false,false,false,false,false,false,false,false,false,false,false] (by kernel_rfl) rfl rfl ⟨(blk_cell BK251.out 0).trans rfl,(blk_cell BK251.out 1).trans rfl,(blk_cell BK264.out 0).trans rfl,(blk_cell BK264.out 1).trans rfl,hx287_0,hx288_0⟩ (fun hHeld => ?_);refine with_tabW spec_CloseSlot.tab16 spec_CloseSlot.bits16 (fun HT_ HW_ => ?_)
                         generalize wc.drew = w84 at HO_7 HO_265000 HO_265001 BK251 BK252 BK264 HB HL287_0 HR287_0 hx287_0 hx288_0 hHeld ⊢;refine pure_ (i:=1) (N:=some 83) (v:=?_) (a':=?_) #[false,true,false,false,false,false,false,false,false,false,false,false,false,false,false,false,false,false,false,false,false,false,false] rfl rfl (any_of HT_.out (by kernel_rfl)) (fun _ _ _ h => h) (Or.inl ⟨by rfl, ?_⟩) ?_ ?_
                         rotate_left
                         ·intro w'
                          go_simp
                          with_reducible rfl
                         rotate_left
                         ·simp only [Act.put,sA_,s0_,s1_,i64_w,i32_w]
                          rfl
                         refine pure_ (i:=2) (N:=some 84) (v:=?_) (a':=?_) #[false,true,true,false,false,false,false,false,false,false,false,false,false,false,false,false,false,false,false,false,false,false,false] rfl rfl (any_of HT_.out (by kernel_rfl)) (fun _ _ _ h => h) (Or.inl ⟨by rfl, ?_⟩) ?_ ?_
                         rotate_left
                         ·intro w'
                          go_simp
                          with_reducible rfl
                         rotate_left
                         ·simp only [Act.put,sA_,s0_,s1_,i64_w,i32_w]
                          rfl
                         refine pure_ (i:=3) (N:=some 85) (v:=?_) (a':=?_) #[false,true,true,true,false,false,false,false,false,false,false,false,false,false,false,false,false,false,false,false,false,false,false] rfl rfl (any_of HT_.out (by kernel_rfl)) (fun _ _ _ h => h) (Or.inl ⟨by rfl, ?_⟩) ?_ ?_
                         rotate_left
                         ·intro w'
                          go_simp
                          with_reducible rfl
                         rotate_left
                         ·simp only [Act.put,sA_,s0_,s1_,i64_w,i32_w]
                          rfl
                         refine take_ (i:=0) (N:=some 82) (v:=?_) (a':=?_) #[true,true,true,true,false,false,false,false,false,false,false,false,false,false,false,false,false,false,false,false,false,false,false] rfl rfl (take_ofW HT_.out HW_.out (by kernel_rfl)) (fun _ _ _ h => h) (Or.inl ⟨by rfl, ?_⟩) hHeld ?_ ?_
                         rotate_left
                         ·rintro w' ⟨s0,s1,s2,s3,s4,s5⟩
                          go_simp
                          with_reducible rfl
                         rotate_left
                         ·simp only [Act.put,sA_,s0_,s1_,i64_w,i32_w]
                          rfl
                         refine one_ (i:=4) (N:=some 86) #[true,true,true,true,true,false,false,false,false,false,false,false,false,false,false,false,false,false,false,false,false,false,false] rfl rfl (one_of HT_.out (by kernel_rfl)) (by decide) (fun K hK => ?_);refine goes_ Try.func47 (by kernel_rfl) rfl #[.agg #[.slice A0_0 l0_0.length c0_0, .slice (some ad270) l0_1.length c0_1], .int .i64 ji76] (by rfl) rfl rfl (by (try simp only [List.map_toArray,List.map_cons,List.map_nil]);first | done | (simp only [hji76];rfl) | rfl | (simp only [List.length_drop,List.length_take];rfl)) ?_
                         with_reducible refine (spec_l18Slot.calls _ _ l0_0 _ _ l0_1 ji76 true _ ?side1 ?side2 ?side3 ?side4 A74.out).mono ?_
                         (case side1 => repeat (first | exact (Kd.C_below HR0_0.out HB.out) | (with_reducible refine Kd.C_alloc ?_ _) | (with_reducible refine Kd.C_drewN ?_ _) | (with_reducible refine Kd.C_drew ?_)))
                         (case side2 => exact HC0_0.out)
                         (case side3 => repeat (first | exact (Kd.C_below HR0_1.out HB.out) | (with_reducible refine Kd.C_alloc ?_ _) | (with_reducible refine Kd.C_drewN ?_ _) | (with_reducible refine Kd.C_drew ?_)))
                         (case side4 => exact HC0_1.out)
                         rintro e w85 ⟨rfl,hb⟩;have HS4_:=(hb.cell (World.block_lt_of_cell? _ _ (hHeld.2.2.2.2.1))).trans (hHeld.2.2.2.2.1);have HS5_:=(hb.cell (World.block_lt_of_cell? _ _ (hHeld.2.2.2.2.2))).trans (hHeld.2.2.2.2.2);refine ⟨_,rfl, ?_⟩;have n0_:=am_ (Kd.R_below (by (with_reducible repeat (first | apply Kd.R_alloc | apply Kd.R_drewN | apply Kd.R_drew));exact HO_7.out) hb);have n1_:=am_ (Kd.R_below (by (with_reducible repeat (first | apply Kd.R_alloc | apply Kd.R_drewN | apply Kd.R_drew));exact HO_265000.out) hb);have n2_:=am_ (Kd.N_below (by (with_reducible repeat (first | apply Kd.N_alloc | apply Kd.N_drewN | apply Kd.N_drew));exact HO_265001.out) hb);have n3_:=am_ (blk_below (g:=gb251) (o := .cells #[.slice A0_0 l0_0.length c0_0, .slice (some ad270) l0_1.length c0_1] 27 (0,0)) (by (with_reducible repeat (first | refine blk_drewN ?_ _ | refine blk_drew ?_ | refine blk_alloc ?_ _));exact BK251.out) hb);have n4_:=am_ (blk_below (g:=gb252) (o := .cells #[.slice none 0 0, .slice none 0 0] 27 (0,0)) (by (with_reducible repeat (first | refine blk_drewN ?_ _ | refine blk_drew ?_ | refine blk_alloc ?_ _));exact BK252.out) hb);have n5_:=am_ (blk_below (g:=gb264) (o := .cells #[.slice (some ⟨go25,0,none⟩) y265.length co32,(.slice (some ad287) x265001_2.length coN3_)] 27 (0,0)) (by (with_reducible repeat (first | refine blk_drewN ?_ _ | refine blk_drew ?_ | refine blk_alloc ?_ _));exact BK264.out) hb);have n6_:=am_ (below_step (by repeat (first | (with_reducible first | exact HB.out | apply below_alloc | apply pw_below_drewN | apply below_drew1 | refine below_set ?_ GE251.out | refine below_set ?_ GE252.out | refine below_set ?_ GE264.out) | exact HB.out)) hb);clear HO_7;clear HO_265000;clear HO_265001;clear BK251;clear BK252;clear BK264;clear HB;have HO_7:=n0_;have HO_265000:=n1_;have HO_265001:=n2_;have BK251:=n3_;have BK252:=n4_;have BK264:=n5_;have HB:=n6_;clear n0_ n1_ n2_ n3_ n4_ n5_ n6_;(try clear hb);(try clear hb2);(try clear hk);(try clear hi);obtain ⟨Ao86,co86,eo86⟩ := Kd.N_slice HO_265001.out
                         (first | subst eo86 | (injection eo86 with f1_ f2_ f3_;have f4_:=f1_.symm;have f5_:=f3_.symm;clear f1_ f2_ f3_;subst f4_;subst f5_))
                         refine hK.out _ _ ⟨(blk_cell BK251.out 0).trans rfl,(blk_cell BK251.out 1).trans rfl,(blk_cell BK264.out 0).trans rfl,(blk_cell BK264.out 1).trans rfl,HS4_,HS5_⟩ (fun hHeld => ?_);clear hK K;refine norm_ (a':=?_) ?_ ?_
                         rotate_left
                         ·show Act.put _ (some 86) _ = _
                          simp only [Act.put,sA_,s0_,s1_,i64_w,i32_w]
                          rfl
                         refine pure_ (i:=5) (N:=some 87) (v:=?_) (a':=?_) #[true,true,true,true,true,true,false,false,false,false,false,false,false,false,false,false,false,false,false,false,false,false,false] rfl rfl (any_of HT_.out (by kernel_rfl)) (fun _ _ _ h => h) (Or.inl ⟨by rfl, ?_⟩) ?_ ?_
                         rotate_left
                         ·intro w'
                          go_simp
                          with_reducible rfl
                         rotate_left
                         ·simp only [Act.put,sA_,s0_,s1_,i64_w,i32_w]
                          rfl
                         refine pure_ (i:=6) (N:=some 88) (v:=?_) (a':=?_) #[true,true,true,true,true,true,true,false,false,false,false,false,false,false,false,false,false,false,false,false,false,false,false] rfl rfl (any_of HT_.out (by kernel_rfl)) (fun _ _ _ h => h) (Or.inl ⟨by rfl, ?_⟩) ?_ ?_
                         rotate_left
                         ·intro w'
                          go_simp
                          with_reducible rfl
                         rotate_left
                         ·simp only [Act.put,sA_,s0_,s1_,i64_w,i32_w]
                          rfl
                         refine pure_ (i:=8) (N:=some 90) (v:=?_) (a':=?_) #[true,true,true,true,true,true,true,false,true,false,false,false,false,false,false,false,false,false,false,false,false,false,false] rfl rfl (any_of HT_.out (by kernel_rfl)) (fun _ _ _ h => h) (Or.inl ⟨by rfl, ?_⟩) ?_ ?_
                         rotate_left
                         ·intro w'
                          go_simp
                          with_reducible rfl
                         rotate_left
                         ·simp only [Act.put,sA_,s0_,s1_,i64_w,i32_w]
                          rfl
                         refine pure_ (i:=9) (N:=some 91) (v:=?_) (a':=?_) #[true,true,true,true,true,true,true,false,true,true,false,false,false,false,false,false,false,false,false,false,false,false,false] rfl rfl (any_of HT_.out (by kernel_rfl)) (fun _ _ _ h => h) (Or.inl ⟨by rfl, ?_⟩) ?_ ?_
                         rotate_left
                         ·intro w'
                          go_simp
                          with_reducible rfl
                         rotate_left
                         ·simp only [Act.put,sA_,s0_,s1_,i64_w,i32_w]
                          rfl
                         refine pure_ (i:=10) (N:=some 92) (v:=?_) (a':=?_) #[true,true,true,true,true,true,true,false,true,true,true,false,false,false,false,false,false,false,false,false,false,false,false] rfl rfl (any_of HT_.out (by kernel_rfl)) (fun _ _ _ h => h) (Or.inl ⟨by rfl, ?_⟩) ?_ ?_
                         rotate_left
                         ·intro w'
                          go_simp
                          with_reducible rfl
                         rotate_left
                         ·simp only [Act.put,sA_,s0_,s1_,i64_w,i32_w]
                          rfl
                         refine pure_ (i:=14) (N:=some 96) (v:=?_) (a':=?_) #[true,true,true,true,true,true,true,false,true,true,true,false,false,false,true,false,false,false,false,false,false,false,false] rfl rfl (any_of HT_.out (by kernel_rfl)) (fun _ _ _ h => h) (Or.inl ⟨by rfl, ?_⟩) ?_ ?_
                         rotate_left
                         ·intro w'
                          go_simp
                          with_reducible rfl
                         rotate_left
                         ·simp only [Act.put,sA_,s0_,s1_,i64_w,i32_w]
                          rfl
                         refine pure_ (i:=16) (N:=some 98) (v:=?_) (a':=?_) #[true,true,true,true,true,true,true,false,true,true,true,false,false,false,true,false,true,false,false,false,false,false,false] rfl rfl (any_of HT_.out (by kernel_rfl)) (fun _ _ _ h => h) (Or.inl ⟨by rfl, ?_⟩) ?_ ?_
                         rotate_left
                         ·intro w'
                          go_simp
                          with_reducible rfl
                         rotate_left
                         ·simp only [Act.put,sA_,s0_,s1_,i64_w,i32_w]
                          rfl
                         refine pure_ (i:=17) (N:=some 99) (v:=?_) (a':=?_) #[true,true,true,true,true,true,true,false,true,true,true,false,false,false,true,false,true,true,false,false,false,false,false] rfl rfl (any_of HT_.out (by kernel_rfl)) (fun _ _ _ h => h) (Or.inl ⟨by rfl, ?_⟩) ?_ ?_
                         rotate_left
                         ·intro w'
                          go_simp
                          with_reducible rfl
                         rotate_left
                         ·simp only [Act.put,sA_,s0_,s1_,i64_w,i32_w]
                          rfl
                         refine pure_ (i:=18) (N:=some 100) (v:=?_) (a':=?_) #[true,true,true,true,true,true,true,false,true,true,true,false,false,false,true,false,true,true,true,false,false,false,false] rfl rfl (any_of HT_.out (by kernel_rfl)) (fun _ _ _ h => h) (Or.inl ⟨by rfl, ?_⟩) ?_ ?_
                         rotate_left
                         ·intro w'
                          go_simp
                          with_reducible rfl
                         rotate_left
                         ·simp only [Act.put,sA_,s0_,s1_,i64_w,i32_w]
                          rfl
                         refine take_ (i:=7) (N:=some 89) (v:=?_) (a':=?_) #[true,true,true,true,true,true,true,true,true,true,true,false,false,false,true,false,true,true,true,false,false,false,false] rfl rfl (take_ofW HT_.out HW_.out (by kernel_rfl)) (fun _ _ _ h => h) (Or.inl ⟨by rfl, ?_⟩) hHeld ?_ ?_
                         rotate_left
                         ·rintro w' ⟨s0,s1,s2,s3,s4,s5⟩
                          go_simp
                          with_reducible rfl
                         rotate_left
                         ·simp only [Act.put,sA_,s0_,s1_,i64_w,i32_w]
                          rfl
                         refine pure_ (i:=11) (N:=some 93) (v:=?_) (a':=?_) #[true,true,true,true,true,true,true,true,true,true,true,true,false,false,true,false,true,true,true,false,false,false,false] rfl rfl (any_of HT_.out (by kernel_rfl)) (fun _ _ _ h => h) (Or.inl ⟨by rfl, ?_⟩) ?_ ?_
                         rotate_left
                         ·intro w'
                          go_simp
                          with_reducible rfl
                         rotate_left
                         ·simp only [Act.put,sA_,s0_,s1_,i64_w,i32_w]
                          rfl
                         refine take_ (i:=12) (N:=some 94) (v:=?_) (a':=?_) #[true,true,true,true,true,true,true,true,true,true,true,true,true,false,true,false,true,true,true,false,false,false,false] rfl rfl (take_ofW HT_.out HW_.out (by kernel_rfl)) (fun _ _ _ h => h) (Or.inl ⟨by rfl, ?_⟩) hHeld ?_ ?_
                         rotate_left
                         ·rintro w' ⟨s0,s1,s2,s3,s4,s5⟩
                          go_simp
                          with_reducible rfl
                         rotate_left
                         ·simp only [Act.put,sA_,s0_,s1_,i64_w,i32_w]
                          rfl
                         refine pure_ (i:=13) (N:=some 95) (v:=?_) (a':=?_) #[true,true,true,true,true,true,true,true,true,true,true,true,true,true,true,false,true,true,true,false,false,false,false] rfl rfl (any_of HT_.out (by kernel_rfl)) (fun _ _ _ h => h) (Or.inl ⟨by rfl, ?_⟩) ?_ ?_
                         rotate_left
                         ·intro w'
                          go_simp
                          with_reducible rfl
                         rotate_left
                         ·simp only [Act.put,sA_,s0_,s1_,i64_w,i32_w]
                          rfl
                         refine take_ (i:=15) (N:=some 97) (v:=?_) (a':=?_) #[true,true,true,true,true,true,true,true,true,true,true,true,true,true,true,true,true,true,true,false,false,false,false] rfl rfl (take_ofW HT_.out HW_.out (by kernel_rfl)) (fun _ _ _ h => h) (Or.inl ⟨by rfl, ?_⟩) hHeld ?_ ?_
                         rotate_left
                         ·rintro w' ⟨s0,s1,s2,s3,s4,s5⟩
                          go_simp
                          with_reducible rfl
                         rotate_left
                         ·simp only [Act.put,sA_,s0_,s1_,i64_w,i32_w]
                          rfl
                         refine pure_ (i:=19) (N:=some 101) (v:=?_) (a':=?_) #[true,true,true,true,true,true,true,true,true,true,true,true,true,true,true,true,true,true,true,true,false,false,false] rfl rfl (any_of HT_.out (by kernel_rfl)) (fun _ _ _ h => h) (Or.inl ⟨by rfl, ?_⟩) ?_ ?_
                         rotate_left
                         ·intro w'
                          go_simp
                          with_reducible rfl
                         rotate_left
                         ·simp only [Act.put,sA_,s0_,s1_,i64_w,i32_w]
                          rfl
                         refine take_ (i:=20) (N:=some 102) (v:=?_) (a':=?_) #[true,true,true,true,true,true,true,true,true,true,true,true,true,true,true,true,true,true,true,true,true,false,false] rfl rfl (take_ofW HT_.out HW_.out (by kernel_rfl)) (fun _ _ _ h => h) (Or.inl ⟨by rfl, ?_⟩) hHeld ?_ ?_
                         rotate_left
                         ·rintro w' ⟨s0,s1,s2,s3,s4,s5⟩
                          go_simp
                          with_reducible rfl
                         rotate_left
                         ·simp only [Act.put,sA_,s0_,s1_,i64_w,i32_w]
                          rfl
                         refine pure_ (i:=21) (N:=some 103) (v:=?_) (a':=?_) #[true,true,true,true,true,true,true,true,true,true,true,true,true,true,true,true,true,true,true,true,true,true,false] rfl rfl (any_of HT_.out (by kernel_rfl)) (fun _ _ _ h => h) (Or.inl ⟨by rfl, ?_⟩) ?_ ?_
                         rotate_left
                         ·intro w'
                          go_simp
                          with_reducible rfl
                         rotate_left
                         ·simp only [Act.put,sA_,s0_,s1_,i64_w,i32_w]
                          rfl
                         refine pure_ (i:=22) (N:=some 104) (v:=?_) (a':=?_) #[true,true,true,true,true,true,true,true,true,true,true,true,true,true,true,true,true,true,true,true,true,true,true] rfl rfl (any_of HT_.out (by kernel_rfl)) (fun _ _ _ h => h) (Or.inl ⟨by rfl, ?_⟩) ?_ ?_
                         rotate_left
                         ·intro w'
                          go_simp
                          with_reducible rfl
                         rotate_left
                         ·simp only [Act.put,sA_,s0_,s1_,i64_w,i32_w]
                          rfl
                         refine done_ (done_of HT_.out (by kernel_rfl)) ?_
                         try go_wp2
                         go_roundg kj60
                         case measure => have:=HJ2.out;have:=HK2.out;have:=HK3.out;have:=HJ51.out;have:=HJ60.out;omega
                         case rel => exact ⟨(x10_3),(wrap64 (x11_3 + 1)),(by first | rfl | (simp;done) | (simp [*];done)),(by first | rfl | (simp;done) | (simp [*];done)),H',⟨by have:=HJ2.out;have:=HK2.out;have:=HK3.out;have:=HJ51.out;have:=HJ60.out;omega⟩,⟨by (try simp only [hl265000_2]);(with_reducible repeat (first | apply Kd.R_alloc | apply Kd.R_drewN | apply Kd.R_drew));exact HO_7.out⟩,⟨by (try simp only [hl265000_2]);(with_reducible repeat (first | apply Kd.R_alloc | apply Kd.R_drewN | apply Kd.R_drew));exact HO_265000.out⟩,⟨by (try simp only [hl265000_2]);(with_reducible repeat (first | apply Kd.N_alloc | apply Kd.N_drewN | apply Kd.N_drew));exact HO_265001.out⟩,⟨by (try simp only [hl265000_2]);(with_reducible repeat (first | refine blk_drewN ?_ _ | refine blk_drew ?_ | refine blk_alloc ?_ _));exact BK251.out⟩,⟨by (try simp only [hl265000_2]);(with_reducible repeat (first | refine blk_drewN ?_ _ | refine blk_drew ?_ | refine blk_alloc ?_ _));exact BK252.out⟩,⟨by (try simp only [hl265000_2]);(with_reducible repeat (first | refine blk_drewN ?_ _ | refine blk_drew ?_ | refine blk_alloc ?_ _));exact BK264.out⟩,⟨by repeat (first | (with_reducible first | exact HB.out | apply below_alloc | apply pw_below_drewN | apply below_drew1 | refine below_set ?_ GE251.out | refine below_set ?_ GE252.out | refine below_set ?_ GE264.out) | exact HB.out)⟩⟩
                       ·rw [if_neg c79] at H
                        exact absurd H (by simp)
                      ·rw [if_neg c78] at H
                       exact absurd H (by simp)
                     ·rw [if_neg c77] at H
                      exact absurd H (by simp)
                    ·replace c75:=Bool.eq_false_iff.mpr c75;subst c75
                     have H1 : (spec_CloseSlot.l1 kj60 a1 x7_2 x9_2 x10_3 (wrap64 (x11_3 + 1)) l0_0 l0_1 y265 x265001_2) = some (r1,r2,r3,r4):=by rw [if_neg (show ¬ (false = true) by decide)] at H;exact H
                     clear H;have H:=H1;clear H1;have H':=am_ H;clear H
                     try go_wp2
                     have n0_:=am_ (Kd.R_drew HO_7.out);have n1_:=am_ (Kd.R_drew HO_265000.out);have n2_:=am_ (Kd.N_drew HO_265001.out);have n3_:=am_ (blk_drew BK251.out);have n4_:=am_ (blk_drew BK252.out);have n5_:=am_ (blk_drew BK264.out);have n6_:=am_ (below_drew1 HB.out);clear HO_7;clear HO_265000;clear HO_265001;clear BK251;clear BK252;clear BK264;clear HB;have HO_7:=n0_;have HO_265000:=n1_;have HO_265001:=n2_;have BK251:=n3_;have BK252:=n4_;have BK264:=n5_;have HB:=n6_;clear n0_ n1_ n2_ n3_ n4_ n5_ n6_
                     refine start_ (n:=23) (S:=fun w' => w'.cell? ⟨gb251,0,none⟩ = some (.slice A0_0 l0_0.length c0_0) ∧ w'.cell? ⟨gb251,1,none⟩ = some (.slice (some ad270) l0_1.length c0_1)) (ds := []) #[false,false,false,false,false,false,false,false,false,false,false,false,false,false,false,false,false,false,false,false,false,false,false] (by kernel_rfl) rfl rfl ⟨(blk_cell BK251.out 0).trans rfl,(blk_cell BK251.out 1).trans rfl⟩ (fun hHeld => ?_);refine with_tabW spec_CloseSlot.tab16 spec_CloseSlot.bits16 (fun HT_ HW_ => ?_)
                     generalize wc.drew = w87 at HO_7 HO_265000 HO_265001 BK251 BK252 BK264 HB hHeld ⊢;refine pure_ (i:=1) (N:=some 83) (v:=?_) (a':=?_) #[false,true,false,false,false,false,false,false,false,false,false,false,false,false,false,false,false,false,false,false,false,false,false] rfl rfl (any_of HT_.out (by kernel_rfl)) (fun _ _ _ h => h) (Or.inl ⟨by rfl, ?_⟩) ?_ ?_
                     rotate_left
                     ·intro w'
                      go_simp
                      with_reducible rfl
                     rotate_left
                     ·simp only [Act.put,sA_,s0_,s1_,i64_w,i32_w]
                      rfl
                     refine pure_ (i:=2) (N:=some 84) (v:=?_) (a':=?_) #[false,true,true,false,false,false,false,false,false,false,false,false,false,false,false,false,false,false,false,false,false,false,false] rfl rfl (any_of HT_.out (by kernel_rfl)) (fun _ _ _ h => h) (Or.inl ⟨by rfl, ?_⟩) ?_ ?_
                     rotate_left
                     ·intro w'
                      go_simp
                      with_reducible rfl
                     rotate_left
                     ·simp only [Act.put,sA_,s0_,s1_,i64_w,i32_w]
                      rfl
                     refine pure_ (i:=3) (N:=some 85) (v:=?_) (a':=?_) #[false,true,true,true,false,false,false,false,false,false,false,false,false,false,false,false,false,false,false,false,false,false,false] rfl rfl (any_of HT_.out (by kernel_rfl)) (fun _ _ _ h => h) (Or.inl ⟨by rfl, ?_⟩) ?_ ?_
                     rotate_left
                     ·intro w'
                      go_simp
                      with_reducible rfl
                     rotate_left
                     ·simp only [Act.put,sA_,s0_,s1_,i64_w,i32_w]
                      rfl
                     refine take_ (i:=0) (N:=some 82) (v:=?_) (a':=?_) #[true,true,true,true,false,false,false,false,false,false,false,false,false,false,false,false,false,false,false,false,false,false,false] rfl rfl (take_ofW HT_.out HW_.out (by kernel_rfl)) (fun _ _ _ h => h) (Or.inl ⟨by rfl, ?_⟩) hHeld ?_ ?_
                     rotate_left
                     ·rintro w' ⟨s0,s1⟩
                      go_simp
                      with_reducible rfl
                     rotate_left
                     ·simp only [Act.put,sA_,s0_,s1_,i64_w,i32_w]
                      rfl
                     refine one_ (i:=4) (N:=some 86) #[true,true,true,true,true,false,false,false,false,false,false,false,false,false,false,false,false,false,false,false,false,false,false] rfl rfl (one_of HT_.out (by kernel_rfl)) (by decide) (fun K hK => ?_);refine goes_ Try.func47 (by kernel_rfl) rfl #[.agg #[.slice A0_0 l0_0.length c0_0, .slice (some ad270) l0_1.length c0_1], .int .i64 (wrap64 (a1 + x11_3))] (by rfl) rfl rfl (by (try simp only [List.map_toArray,List.map_cons,List.map_nil]);first | done | rfl | (simp only [List.length_drop,List.length_take];rfl)) ?_
                     with_reducible refine (spec_l18Slot.calls _ _ l0_0 _ _ l0_1 (wrap64 (a1 + x11_3)) false _ ?side1 ?side2 ?side3 ?side4 A74.out).mono ?_
                     (case side1 => repeat (first | exact (Kd.C_below HR0_0.out HB.out) | (with_reducible refine Kd.C_alloc ?_ _) | (with_reducible refine Kd.C_drewN ?_ _) | (with_reducible refine Kd.C_drew ?_)))
                     (case side2 => exact HC0_0.out)
                     (case side3 => repeat (first | exact (Kd.C_below HR0_1.out HB.out) | (with_reducible refine Kd.C_alloc ?_ _) | (with_reducible refine Kd.C_drewN ?_ _) | (with_reducible refine Kd.C_drew ?_)))
                     (case side4 => exact HC0_1.out)
                     rintro e w88 ⟨rfl,hb⟩;refine ⟨_,rfl, ?_⟩;have n0_:=am_ (Kd.R_below (by (with_reducible repeat (first | apply Kd.R_alloc | apply Kd.R_drewN | apply Kd.R_drew));exact HO_7.out) hb);have n1_:=am_ (Kd.R_below (by (with_reducible repeat (first | apply Kd.R_alloc | apply Kd.R_drewN | apply Kd.R_drew));exact HO_265000.out) hb);have n2_:=am_ (Kd.N_below (by (with_reducible repeat (first | apply Kd.N_alloc | apply Kd.N_drewN | apply Kd.N_drew));exact HO_265001.out) hb);have n3_:=am_ (blk_below (g:=gb251) (o := .cells #[.slice A0_0 l0_0.length c0_0, .slice (some ad270) l0_1.length c0_1] 27 (0,0)) (by (with_reducible repeat (first | refine blk_drewN ?_ _ | refine blk_drew ?_ | refine blk_alloc ?_ _));exact BK251.out) hb);have n4_:=am_ (blk_below (g:=gb252) (o := .cells #[.slice none 0 0, .slice none 0 0] 27 (0,0)) (by (with_reducible repeat (first | refine blk_drewN ?_ _ | refine blk_drew ?_ | refine blk_alloc ?_ _));exact BK252.out) hb);have n5_:=am_ (blk_below (g:=gb264) (o := .cells #[.slice (some ⟨go25,0,none⟩) y265.length co32,u265001] 27 (0,0)) (by (with_reducible repeat (first | refine blk_drewN ?_ _ | refine blk_drew ?_ | refine blk_alloc ?_ _));exact BK264.out) hb);have n6_:=am_ (below_step (by repeat (first | (with_reducible first | exact HB.out | apply below_alloc | apply pw_below_drewN | apply below_drew1 | refine below_set ?_ GE251.out | refine below_set ?_ GE252.out | refine below_set ?_ GE264.out) | exact HB.out)) hb);clear HO_7;clear HO_265000;clear HO_265001;clear BK251;clear BK252;clear BK264;clear HB;have HO_7:=n0_;have HO_265000:=n1_;have HO_265001:=n2_;have BK251:=n3_;have BK252:=n4_;have BK264:=n5_;have HB:=n6_;clear n0_ n1_ n2_ n3_ n4_ n5_ n6_;(try clear hb);(try clear hb2);(try clear hk);(try clear hi);refine hK.out _ _ ⟨(blk_cell BK251.out 0).trans rfl,(blk_cell BK251.out 1).trans rfl⟩ (fun hHeld => ?_);clear hK K;refine norm_ (a':=?_) ?_ ?_
                     rotate_left
                     ·show Act.put _ (some 86) _ = _
                      simp only [Act.put,sA_,s0_,s1_,i64_w,i32_w]
                      rfl
                     refine pure_ (i:=5) (N:=some 87) (v:=?_) (a':=?_) #[true,true,true,true,true,true,false,false,false,false,false,false,false,false,false,false,false,false,false,false,false,false,false] rfl rfl (any_of HT_.out (by kernel_rfl)) (fun _ _ _ h => h) (Or.inl ⟨by rfl, ?_⟩) ?_ ?_
                     rotate_left
                     ·intro w'
                      go_simp
                      with_reducible rfl
                     rotate_left
                     ·simp only [Act.put,sA_,s0_,s1_,i64_w,i32_w]
                      rfl
                     refine pure_ (i:=6) (N:=some 88) (v:=undef) (a':=?_) #[true,true,true,true,true,true,true,false,false,false,false,false,false,false,false,false,false,false,false,false,false,false,false] rfl rfl (any_of HT_.out (by kernel_rfl)) (fun _ _ _ h => h) (Or.inr ⟨by rfl,rfl⟩) ?_ ?_
                     rotate_left
                     ·simp only [Act.put,sA_,s0_,s1_,i64_w,i32_w]
                      rfl
                     refine pure_ (i:=7) (N:=some 89) (v:=undef) (a':=?_) #[true,true,true,true,true,true,true,true,false,false,false,false,false,false,false,false,false,false,false,false,false,false,false] rfl rfl (any_of HT_.out (by kernel_rfl)) (fun _ _ _ h => h) (Or.inr ⟨by rfl,rfl⟩) ?_ ?_
                     rotate_left
                     ·simp only [Act.put,sA_,s0_,s1_,i64_w,i32_w]
                      rfl
                     refine pure_ (i:=8) (N:=some 90) (v:=undef) (a':=?_) #[true,true,true,true,true,true,true,true,true,false,false,false,false,false,false,false,false,false,false,false,false,false,false] rfl rfl (any_of HT_.out (by kernel_rfl)) (fun _ _ _ h => h) (Or.inr ⟨by rfl,rfl⟩) ?_ ?_
                     rotate_left
                     ·simp only [Act.put,sA_,s0_,s1_,i64_w,i32_w]
                      rfl
                     refine pure_ (i:=9) (N:=some 91) (v:=undef) (a':=?_) #[true,true,true,true,true,true,true,true,true,true,false,false,false,false,false,false,false,false,false,false,false,false,false] rfl rfl (any_of HT_.out (by kernel_rfl)) (fun _ _ _ h => h) (Or.inr ⟨by rfl,rfl⟩) ?_ ?_
                     rotate_left
                     ·simp only [Act.put,sA_,s0_,s1_,i64_w,i32_w]
                      rfl
                     refine pure_ (i:=10) (N:=some 92) (v:=undef) (a':=?_) #[true,true,true,true,true,true,true,true,true,true,true,false,false,false,false,false,false,false,false,false,false,false,false] rfl rfl (any_of HT_.out (by kernel_rfl)) (fun _ _ _ h => h) (Or.inr ⟨by rfl,rfl⟩) ?_ ?_
                     rotate_left
                     ·simp only [Act.put,sA_,s0_,s1_,i64_w,i32_w]
                      rfl
                     refine pure_ (i:=11) (N:=some 93) (v:=undef) (a':=?_) #[true,true,true,true,true,true,true,true,true,true,true,true,false,false,false,false,false,false,false,false,false,false,false] rfl rfl (any_of HT_.out (by kernel_rfl)) (fun _ _ _ h => h) (Or.inr ⟨by rfl,rfl⟩) ?_ ?_
                     rotate_left
                     ·simp only [Act.put,sA_,s0_,s1_,i64_w,i32_w]
                      rfl
                     refine pure_ (i:=12) (N:=some 94) (v:=undef) (a':=?_) #[true,true,true,true,true,true,true,true,true,true,true,true,true,false,false,false,false,false,false,false,false,false,false] rfl rfl (any_of HT_.out (by kernel_rfl)) (fun _ _ _ h => h) (Or.inr ⟨by rfl,rfl⟩) ?_ ?_
                     rotate_left
                     ·simp only [Act.put,sA_,s0_,s1_,i64_w,i32_w]
                      rfl
                     refine pure_ (i:=13) (N:=some 95) (v:=undef) (a':=?_) #[true,true,true,true,true,true,true,true,true,true,true,true,true,true,false,false,false,false,false,false,false,false,false] rfl rfl (any_of HT_.out (by kernel_rfl)) (fun _ _ _ h => h) (Or.inr ⟨by rfl,rfl⟩) ?_ ?_
                     rotate_left
                     ·simp only [Act.put,sA_,s0_,s1_,i64_w,i32_w]
                      rfl
                     refine pure_ (i:=14) (N:=some 96) (v:=undef) (a':=?_) #[true,true,true,true,true,true,true,true,true,true,true,true,true,true,true,false,false,false,false,false,false,false,false] rfl rfl (any_of HT_.out (by kernel_rfl)) (fun _ _ _ h => h) (Or.inr ⟨by rfl,rfl⟩) ?_ ?_
                     rotate_left
                     ·simp only [Act.put,sA_,s0_,s1_,i64_w,i32_w]
                      rfl
                     refine pure_ (i:=15) (N:=some 97) (v:=undef) (a':=?_) #[true,true,true,true,true,true,true,true,true,true,true,true,true,true,true,true,false,false,false,false,false,false,false] rfl rfl (any_of HT_.out (by kernel_rfl)) (fun _ _ _ h => h) (Or.inr ⟨by rfl,rfl⟩) ?_ ?_
                     rotate_left
                     ·simp only [Act.put,sA_,s0_,s1_,i64_w,i32_w]
                      rfl
                     refine pure_ (i:=16) (N:=some 98) (v:=undef) (a':=?_) #[true,true,true,true,true,true,true,true,true,true,true,true,true,true,true,true,true,false,false,false,false,false,false] rfl rfl (any_of HT_.out (by kernel_rfl)) (fun _ _ _ h => h) (Or.inr ⟨by rfl,rfl⟩) ?_ ?_
                     rotate_left
                     ·simp only [Act.put,sA_,s0_,s1_,i64_w,i32_w]
                      rfl
                     refine pure_ (i:=17) (N:=some 99) (v:=undef) (a':=?_) #[true,true,true,true,true,true,true,true,true,true,true,true,true,true,true,true,true,true,false,false,false,false,false] rfl rfl (any_of HT_.out (by kernel_rfl)) (fun _ _ _ h => h) (Or.inr ⟨by rfl,rfl⟩) ?_ ?_
                     rotate_left
                     ·simp only [Act.put,sA_,s0_,s1_,i64_w,i32_w]
                      rfl
                     refine pure_ (i:=18) (N:=some 100) (v:=undef) (a':=?_) #[true,true,true,true,true,true,true,true,true,true,true,true,true,true,true,true,true,true,true,false,false,false,false] rfl rfl (any_of HT_.out (by kernel_rfl)) (fun _ _ _ h => h) (Or.inr ⟨by rfl,rfl⟩) ?_ ?_
                     rotate_left
                     ·simp only [Act.put,sA_,s0_,s1_,i64_w,i32_w]
                      rfl
                     refine pure_ (i:=19) (N:=some 101) (v:=undef) (a':=?_) #[true,true,true,true,true,true,true,true,true,true,true,true,true,true,true,true,true,true,true,true,false,false,false] rfl rfl (any_of HT_.out (by kernel_rfl)) (fun _ _ _ h => h) (Or.inr ⟨by rfl,rfl⟩) ?_ ?_
                     rotate_left
                     ·simp only [Act.put,sA_,s0_,s1_,i64_w,i32_w]
                      rfl
                     refine pure_ (i:=20) (N:=some 102) (v:=undef) (a':=?_) #[true,true,true,true,true,true,true,true,true,true,true,true,true,true,true,true,true,true,true,true,true,false,false] rfl rfl (any_of HT_.out (by kernel_rfl)) (fun _ _ _ h => h) (Or.inr ⟨by rfl,rfl⟩) ?_ ?_
                     rotate_left
                     ·simp only [Act.put,sA_,s0_,s1_,i64_w,i32_w]
                      rfl
                     refine pure_ (i:=21) (N:=some 103) (v:=undef) (a':=?_) #[true,true,true,true,true,true,true,true,true,true,true,true,true,true,true,true,true,true,true,true,true,true,false] rfl rfl (any_of HT_.out (by kernel_rfl)) (fun _ _ _ h => h) (Or.inr ⟨by rfl,rfl⟩) ?_ ?_
                     rotate_left
                     ·simp only [Act.put,sA_,s0_,s1_,i64_w,i32_w]
                      rfl
                     refine pure_ (i:=22) (N:=some 104) (v:=?_) (a':=?_) #[true,true,true,true,true,true,true,true,true,true,true,true,true,true,true,true,true,true,true,true,true,true,true] rfl rfl (any_of HT_.out (by kernel_rfl)) (fun _ _ _ h => h) (Or.inl ⟨by rfl, ?_⟩) ?_ ?_
                     rotate_left
                     ·intro w'
                      go_simp
                      with_reducible rfl
                     rotate_left
                     ·simp only [Act.put,sA_,s0_,s1_,i64_w,i32_w]
                      rfl
                     refine done_ (done_of HT_.out (by kernel_rfl)) ?_
                     try go_wp2
                     go_roundg kj60
                     case measure => have:=HJ2.out;have:=HK2.out;have:=HK3.out;have:=HJ51.out;have:=HJ60.out;omega
                     case rel => exact ⟨(x10_3),(wrap64 (x11_3 + 1)),(by first | rfl | (simp;done) | (simp [*];done)),(by first | rfl | (simp;done) | (simp [*];done)),H',⟨by have:=HJ2.out;have:=HK2.out;have:=HK3.out;have:=HJ51.out;have:=HJ60.out;omega⟩,⟨by (try simp only [hl265000_2]);(with_reducible repeat (first | apply Kd.R_alloc | apply Kd.R_drewN | apply Kd.R_drew));exact HO_7.out⟩,⟨by (try simp only [hl265000_2]);(with_reducible repeat (first | apply Kd.R_alloc | apply Kd.R_drewN | apply Kd.R_drew));exact HO_265000.out⟩,⟨by (try simp only [hl265000_2]);(with_reducible repeat (first | apply Kd.N_alloc | apply Kd.N_drewN | apply Kd.N_drew));exact HO_265001.out⟩,⟨by (try simp only [hl265000_2]);(with_reducible repeat (first | refine blk_drewN ?_ _ | refine blk_drew ?_ | refine blk_alloc ?_ _));exact BK251.out⟩,⟨by (try simp only [hl265000_2]);(with_reducible repeat (first | refine blk_drewN ?_ _ | refine blk_drew ?_ | refine blk_alloc ?_ _));exact BK252.out⟩,⟨by (try simp only [hl265000_2]);(with_reducible repeat (first | refine blk_drewN ?_ _ | refine blk_drew ?_ | refine blk_alloc ?_ _));exact BK264.out⟩,⟨by repeat (first | (with_reducible first | exact HB.out | apply below_alloc | apply pw_below_drewN | apply below_drew1 | refine below_set ?_ GE251.out | refine below_set ?_ GE252.out | refine below_set ?_ GE264.out) | exact HB.out)⟩⟩
                ·replace c60:=Bool.eq_false_iff.mpr c60;subst c60
                 have H1 : (if x10_3 < 0 then (if 0 ≤ a1 then (if a1 < (l0_1.length : Int) then (if 0 ≤ x9_2 then (if x9_2 < ((rd_L1 l0_1 a1).length : Int) then (if x7_2.length < 17592186044416 then (spec_CloseSlot.l0 kj51 a1 (x7_2 ++ [rd (rd_L1 l0_1 a1) x9_2]) (wrap64 (x9_2 + 1)) l0_0 l0_1 y265 x265001_2) else (none)) else (none)) else (none)) else (none)) else (none)) else (if 0 ≤ x10_3 then (if x10_3 < (x265001_2.length : Int) then (if 0 ≤ a1 then (if a1 < (l0_1.length : Int) then (if 0 ≤ x9_2 then (if x9_2 < ((rd_L1 l0_1 a1).length : Int) then ((spec_l1Put.f kj51 (rd_L1 x265001_2 x10_3) (rd (rd_L1 l0_1 a1) x9_2)).bind fun t279 => (spec_CloseSlot.l0 kj51 a1 x7_2 (wrap64 (x9_2 + 1)) l0_0 l0_1 y265 (x265001_2.set (x10_3 : Int).toNat t279))) else (none)) else (none)) else (none)) else (none)) else (none)) else (none))) = some (r1,r2,r3,r4):=by rw [if_neg (show ¬ (false = true) by decide)] at H;exact H
                 clear H;have H:=H1;clear H1
                 by_cases c89 : x10_3 < 0
                 ·rw [if_pos c89] at H;have c89b0 : decide (x10_3 < 0) = true:=decide_eq_true c89;clear c89
                  by_cases c90 : 0 ≤ a1
                  ·rw [if_pos c90] at H;have c90b0 : decide (0 ≤ a1) = true:=decide_eq_true c90;clear c90
                   by_cases c91 : a1 < (l0_1.length : Int)
                   ·rw [if_pos c91] at H;have c91b0 : decide (a1 < (l0_1.length : Int)) = true:=decide_eq_true c91;clear c91
                    by_cases c92 : 0 ≤ x9_2
                    ·rw [if_pos c92] at H;have c92b0 : decide (0 ≤ x9_2) = true:=decide_eq_true c92;clear c92
                     by_cases c93 : x9_2 < ((rd_L1 l0_1 a1).length : Int)
                     ·rw [if_pos c93] at H;have c93b0 : decide (x9_2 < ((rd_L1 l0_1 a1).length : Int)) = true:=decide_eq_true c93;clear c93
                      by_cases c94 : x7_2.length < 17592186044416
                      ·rw [if_pos c94] at H;have LMc94:=am_ c94;clear c94;obtain ⟨y273,hy273⟩ : ∃ y_ : List Int,y_ = (x7_2 ++ [rd (rd_L1 l0_1 a1) x9_2]):=⟨_,rfl⟩
                       replace H : (spec_CloseSlot.l0 kj51 a1 y273 (wrap64 (x9_2 + 1)) l0_0 l0_1 y265 x265001_2) = some (r1,r2,r3,r4):=by first | (rw [hy273];with_reducible exact H) | (have H2_:=(Option.bind_some _ _).symm.trans H;rw [hy273];with_reducible exact H2_) | (have H2_:=(Option.bind_some _ _).symm.trans H;with_reducible exact H2_) | with_reducible exact H | (rw [hy273];exact H) | exact H
                       have Ny273:=am_ hy273;clear hy273;have H':=am_ H;clear H;have hnb95:=NB251_252.out;have hnc95:=NB252_251.out;have hnb96:=NB251_264.out;have hnc96:=NB264_251.out;have hcz97_0:=c2_0 BK251.out;have hcz97_1:=c2_1 BK251.out;have hfz97_0:=blk_frozen BK251.out 0;have hfz97_1:=blk_frozen BK251.out 1;have p271 : 0 ≤ (a1 : Int):=of_decide_eq_true (by first | (with_reducible assumption) | assumption);have q271 : a1 < (l0_1.length : Int):=of_decide_eq_true (by first | (with_reducible assumption) | assumption);obtain ⟨ad271,A271_0,c271_0,e271,hx271_0,hl271_0,hi271_0⟩ := at_L1 HR0_1.out a1 p271 q271;obtain rfl : ad270 = ad271:=(by injection e271);replace hx271_0:=(HB.out.cell (World.block_lt_of_cell? w _ hx271_0)).trans hx271_0;have HR271_0:=am_ hi271_0;have HC271_0:=am_ hl271_0;clear hi271_0 hl271_0;replace p271:=eq_true p271;replace q271:=eq_true q271;have p272 : 0 ≤ (x9_2 : Int):=of_decide_eq_true (by first | (with_reducible assumption) | assumption);have q272 : x9_2 < ((rd_L1 l0_1 a1).length : Int):=of_decide_eq_true (by first | (with_reducible assumption) | assumption);obtain ⟨ad272,e272,hx272_0⟩ := Kd.at_int HR271_0.out x9_2 p272 q272;cases e272;replace hx272_0:=(HB.out.cell (World.block_lt_of_cell? w _ hx272_0)).trans hx272_0;replace p272:=eq_true p272;replace q272:=eq_true q272
                       go_wp2_with (first | ((with_reducible refine gate_builtin (b := .append) (xs:=#[.tmp 110, .tmp 119]) rfl ?_);(try (refine gate_guard (by rfl) ?_;dsimp only));at_builtin;refine Kd.R_append (Kd.int .i64) (w0:=w) w.heap.size rfl (.tmp 110) (.tmp 119) 24 3 (.int .i64 0) 8 rfl Try.underlying24 info3 rfl (by decide) (by omega) u7 x7_2 (rd (rd_L1 l0_1 a1) x9_2) [.int .i64 (rd (rd_L1 l0_1 a1) x9_2)] (fun k_ => (w.heap.size ≤ k_) ∧ some k_ ≠ (.slice (some ⟨go25,0,none⟩) y265.length co32 : Value).ownBlock) (fun _ => False) rfl rfl ?aP (fun _ hk => hk.elim) ?aF ?aO ?aB ?aS ?aL ?_;(case aP => exact rfl);(case aB => exact (by repeat (first | (with_reducible first | exact HB.out | apply below_alloc | apply pw_below_drewN | apply below_drew1 | refine below_set ?_ GE251.out | refine below_set ?_ GE252.out | refine below_set ?_ GE264.out) | exact HB.out)));(case aF => exact (fun k_ hk => ⟨(Nat.le_trans (below_size (by repeat (first | (with_reducible first | exact HB.out | apply below_alloc | apply pw_below_drewN | apply below_drew1 | refine below_set ?_ GE251.out | refine below_set ?_ GE252.out | refine below_set ?_ GE264.out) | exact HB.out))) hk),Kd.fresh' (Kd.R_lt (by (with_reducible repeat (first | apply Kd.R_alloc | apply Kd.R_drewN | apply Kd.R_drew));exact HO_265000.out)) k_ hk⟩));(case aO => exact (by (with_reducible repeat (first | apply Kd.R_alloc | apply Kd.R_drewN | apply Kd.R_drew));exact HO_7.out));(case aS => exact (below_size (by repeat (first | (with_reducible first | exact HB.out | apply below_alloc | apply pw_below_drewN | apply below_drew1 | refine below_set ?_ GE251.out | refine below_set ?_ GE252.out | refine below_set ?_ GE264.out) | exact HB.out))));(case aL => have:=LMc94.out;omega);intro v274 w98 ho hb hg hat;rw [← Ny273.out] at ho;have n0_:=am_ (Kd.R_after (ok:=(fun k_ => (w.heap.size ≤ k_))) (by (with_reducible repeat (first | apply Kd.R_alloc | apply Kd.R_drewN | apply Kd.R_drew));exact HO_265000.out) hg hat);have n1_:=am_ (Kd.N_afterv (ok:=(fun k_ => (w.heap.size ≤ k_) ∧ some k_ ≠ (.slice (some ⟨go25,0,none⟩) y265.length co32 : Value).ownBlock ∧ k_ ≠ gb251 ∧ k_ ≠ gb252 ∧ k_ ≠ gb264)) (by (with_reducible repeat (first | apply Kd.N_alloc | apply Kd.N_drewN | apply Kd.N_drew));exact Kd.N_mono HO_265001.out (fun _ hk => ⟨⟨hk.1,⟨hk.2.2.1,⟨hk.2.2.2.1,⟨hk.2.2.2.2.1,hk.2.2.2.2.2⟩⟩⟩⟩,hk.2.1⟩)) hg hat);have n2_:=am_ (blk_grown (g:=gb251) (o := .cells #[.slice A0_0 l0_0.length c0_0, .slice (some ad270) l0_1.length c0_1] 27 (0,0)) (by (with_reducible repeat (first | refine blk_drewN ?_ _ | refine blk_drew ?_ | refine blk_alloc ?_ _));exact BK251.out) hg (Kd.R_ne HO_7.out BK251.out (by decide)));have n3_:=am_ (blk_grown (g:=gb252) (o := .cells #[.slice none 0 0, .slice none 0 0] 27 (0,0)) (by (with_reducible repeat (first | refine blk_drewN ?_ _ | refine blk_drew ?_ | refine blk_alloc ?_ _));exact BK252.out) hg (Kd.R_ne HO_7.out BK252.out (by decide)));have n4_:=am_ (blk_grown (g:=gb264) (o := .cells #[.slice (some ⟨go25,0,none⟩) y265.length co32,u265001] 27 (0,0)) (by (with_reducible repeat (first | refine blk_drewN ?_ _ | refine blk_drew ?_ | refine blk_alloc ?_ _));exact BK264.out) hg (Kd.R_ne HO_7.out BK264.out (by decide)));have n5_:=am_ hb;have n6_:=am_ (ho);clear HO_265000;clear HO_265001;clear BK251;clear BK252;clear BK264;clear HB;clear HO_7;have HO_265000:=n0_;have HO_265001:=n1_;have BK251:=n2_;have BK252:=n3_;have BK264:=n4_;have HB:=n5_;have HO275:=n6_;clear n0_ n1_ n2_ n3_ n4_ n5_ n6_;clear ho hb hg hat))
                       (try simp only [← hl265000_2])
                       go_roundg kj51
                       case measure => have:=HJ2.out;have:=HK2.out;have:=HK3.out;have:=HJ51.out;omega
                       case rel => exact ⟨(y273),(wrap64 (x9_2 + 1)),(x265001_2),(u265001),(by first | rfl | (simp;done) | (simp [*];done)),H',⟨by have:=HJ2.out;have:=HK2.out;have:=HK3.out;have:=HJ51.out;omega⟩,⟨by (try simp only [hl265000_2]);(with_reducible repeat (first | apply Kd.R_alloc | apply Kd.R_drewN | apply Kd.R_drew));exact HO275.out⟩,⟨by (try simp only [hl265000_2]);(with_reducible repeat (first | apply Kd.R_alloc | apply Kd.R_drewN | apply Kd.R_drew));exact HO_265000.out⟩,⟨by (try simp only [hl265000_2]);(with_reducible repeat (first | apply Kd.N_alloc | apply Kd.N_drewN | apply Kd.N_drew));exact Kd.N_mono HO_265001.out (fun _ hk => ⟨hk.1.1,⟨hk.2,⟨hk.1.2.1,⟨hk.1.2.2.1,⟨hk.1.2.2.2.1,hk.1.2.2.2.2⟩⟩⟩⟩⟩)⟩,⟨by (try simp only [hl265000_2]);(with_reducible repeat (first | refine blk_drewN ?_ _ | refine blk_drew ?_ | refine blk_alloc ?_ _));exact BK251.out⟩,⟨by (try simp only [hl265000_2]);(with_reducible repeat (first | refine blk_drewN ?_ _ | refine blk_drew ?_ | refine blk_alloc ?_ _));exact BK252.out⟩,⟨by (try simp only [hl265000_2]);(with_reducible repeat (first | refine blk_drewN ?_ _ | refine blk_drew ?_ | refine blk_alloc ?_ _));exact BK264.out⟩,⟨by repeat (first | (with_reducible first | exact HB.out | apply below_alloc | apply pw_below_drewN | apply below_drew1 | refine below_set ?_ GE251.out | refine below_set ?_ GE252.out | refine below_set ?_ GE264.out) | exact HB.out)⟩⟩
                      ·rw [if_neg c94] at H
                       exact absurd H (by simp)
                     ·rw [if_neg c93] at H
                      exact absurd H (by simp)
                    ·rw [if_neg c92] at H
                     exact absurd H (by simp)
                   ·rw [if_neg c91] at H
                    exact absurd H (by simp)
                  ·rw [if_neg c90] at H
                   exact absurd H (by simp)
                 ·rw [if_neg c89] at H;have c89b0 : decide (x10_3 < 0) = false:=decide_eq_false c89;clear c89
                  by_cases c99 : 0 ≤ x10_3
                  ·rw [if_pos c99] at H;have c99b0 : decide (0 ≤ x10_3) = true:=decide_eq_true c99;clear c99
                   by_cases c100 : x10_3 < (x265001_2.length : Int)
                   ·rw [if_pos c100] at H;have c100b0 : decide (x10_3 < (x265001_2.length : Int)) = true:=decide_eq_true c100;clear c100
                    by_cases c101 : 0 ≤ a1
                    ·rw [if_pos c101] at H;have c101b0 : decide (0 ≤ a1) = true:=decide_eq_true c101;clear c101
                     by_cases c102 : a1 < (l0_1.length : Int)
                     ·rw [if_pos c102] at H;have c102b0 : decide (a1 < (l0_1.length : Int)) = true:=decide_eq_true c102;clear c102
                      by_cases c103 : 0 ≤ x9_2
                      ·rw [if_pos c103] at H;have c103b0 : decide (0 ≤ x9_2) = true:=decide_eq_true c103;clear c103
                       by_cases c104 : x9_2 < ((rd_L1 l0_1 a1).length : Int)
                       ·rw [if_pos c104] at H;have c104b0 : decide (x9_2 < ((rd_L1 l0_1 a1).length : Int)) = true:=decide_eq_true c104;clear c104;replace H:=Option.bind_eq_some_iff.mp H;obtain ⟨t279,A1050,H⟩ := H;replace H : (spec_CloseSlot.l0 kj51 a1 x7_2 (wrap64 (x9_2 + 1)) l0_0 l0_1 y265 (x265001_2.set (x10_3 : Int).toNat t279)) = some (r1,r2,r3,r4):=H;have A105:=am_ A1050;clear A1050;obtain ⟨y282,hy282⟩ : ∃ y_ : List (List Int),y_ = (x265001_2.set (x10_3 : Int).toNat t279):=⟨_,rfl⟩
                        replace H : (spec_CloseSlot.l0 kj51 a1 x7_2 (wrap64 (x9_2 + 1)) l0_0 l0_1 y265 y282) = some (r1,r2,r3,r4):=by first | (rw [hy282];with_reducible exact H) | (have H2_:=(Option.bind_some _ _).symm.trans H;rw [hy282];with_reducible exact H2_) | (have H2_:=(Option.bind_some _ _).symm.trans H;with_reducible exact H2_) | with_reducible exact H | (rw [hy282];exact H) | exact H
                        have Ny282:=am_ hy282;clear hy282;have H':=am_ H;clear H
                        try go_wp2
                        have n0_:=am_ (Kd.R_drew HO_7.out);have n1_:=am_ (Kd.R_drew HO_265000.out);have n2_:=am_ (Kd.N_drew HO_265001.out);have n3_:=am_ (blk_drew BK251.out);have n4_:=am_ (blk_drew BK252.out);have n5_:=am_ (blk_drew BK264.out);have n6_:=am_ (below_drew1 HB.out);clear HO_7;clear HO_265000;clear HO_265001;clear BK251;clear BK252;clear BK264;clear HB;have HO_7:=n0_;have HO_265000:=n1_;have HO_265001:=n2_;have BK251:=n3_;have BK252:=n4_;have BK264:=n5_;have HB:=n6_;clear n0_ n1_ n2_ n3_ n4_ n5_ n6_;obtain ⟨Ao108,co108,eo108⟩ := Kd.N_slice HO_265001.out
                        (first | subst eo108 | (injection eo108 with f1_ f2_ f3_;have f4_:=f1_.symm;have f5_:=f3_.symm;clear f1_ f2_ f3_;subst f4_;subst f5_))
                        have p276 : 0 ≤ (x10_3 : Int):=of_decide_eq_true (by first | (with_reducible assumption) | assumption);have q276 : x10_3 < (x265001_2.length : Int):=of_decide_eq_true (by first | (with_reducible assumption) | assumption);obtain ⟨ad276,A276_0,c276_0,e276,hx276_0,hl276_0,hi276_0⟩ := at_L1 (Kd.N_reads' HO_265001.out).2.2 x10_3 p276 q276;cases e276;obtain ⟨ce276,hce276,hMe276,hcc276⟩ := Kd.N_get HO_265001.out [] x10_3 p276 (by first | exact q276 | exact of_decide_eq_true (by first | (with_reducible assumption) | assumption) | (have e_:=(Kd.N_reads' HO_265001.out).1;omega));obtain ⟨ua276_0,uc276_0,rfl,ul276_0,ge276_0⟩ := Kd.FK_slice_open hMe276;have hv276_0:=hcc276 0 _ rfl;rw [Nat.add_zero,show ((Kd.slice 3 (Kd.int .i64))).sz = 1 from rfl,Nat.mul_one] at hv276_0;replace hv276_0:=Option.some.inj (hv276_0.symm.trans hx276_0)
                        injection hv276_0 with hva_ hvn_ hvc_
                        rw [hva_] at ge276_0;rw [hvc_] at ul276_0;have HL276_0:=am_ (show Kd.V (Kd.int .i64) 3 _ w.heap.size _ _ (rd_L1 x265001_2 x10_3) from Kd.V_mk ul276_0 ge276_0);clear hva_ hvn_ hvc_ ge276_0 ul276_0;clear hcc276 hce276;have HR276_0:=am_ hi276_0;have HC276_0:=am_ hl276_0;clear hi276_0 hl276_0;replace p276:=eq_true p276;replace q276:=eq_true q276;have p277 : 0 ≤ (a1 : Int):=of_decide_eq_true (by first | (with_reducible assumption) | assumption);have q277 : a1 < (l0_1.length : Int):=of_decide_eq_true (by first | (with_reducible assumption) | assumption);obtain ⟨ad277,A277_0,c277_0,e277,hx277_0,hl277_0,hi277_0⟩ := at_L1 HR0_1.out a1 p277 q277;have hw277_0:=hx277_0;obtain rfl : ad270 = ad277:=(by injection e277);replace hx277_0:=(HB.out.cell (World.block_lt_of_cell? w _ hx277_0)).trans hx277_0;have HR277_0:=am_ hi277_0;have HC277_0:=am_ hl277_0;clear hi277_0 hl277_0;replace p277:=eq_true p277;replace q277:=eq_true q277;have p278 : 0 ≤ (x9_2 : Int):=of_decide_eq_true (by first | (with_reducible assumption) | assumption);have q278 : x9_2 < ((rd_L1 l0_1 a1).length : Int):=of_decide_eq_true (by first | (with_reducible assumption) | assumption);obtain ⟨ad278,e278,hx278_0⟩ := Kd.at_int HR277_0.out x9_2 p278 q278;have hw278_0:=hx278_0;cases e278;replace hx278_0:=(HB.out.cell (World.block_lt_of_cell? w _ hx278_0)).trans hx278_0;replace p278:=eq_true p278;replace q278:=eq_true q278
                        refine start_ (n:=19) (S:=fun w' => w'.cell? ⟨gb264,0,none⟩ = some (.slice (some ⟨go25,0,none⟩) y265.length co32) ∧ w'.cell? ⟨gb264,1,none⟩ = some (.slice (some ad276) x265001_2.length co108) ∧ w'.cell? ⟨gb251,0,none⟩ = some (.slice A0_0 l0_0.length c0_0) ∧ w'.cell? ⟨gb251,1,none⟩ = some (.slice (some ad270) l0_1.length c0_1) ∧ w'.cell? (ad276.add (x10_3).toNat) = some (.slice A276_0 (rd_L1 x265001_2 x10_3).length c276_0) ∧ w'.cell? (ad270.add (a1).toNat) = some (.slice (some ad278) (rd_L1 l0_1 a1).length c277_0) ∧ w'.cell? (ad278.add (x9_2).toNat) = some (.int .i64 (rd (rd_L1 l0_1 a1) x9_2))) (ds := [18]) #[false,false,false,false,false,false,false,false,false,false,false,false,false,false,false,false,false,false,false] (by kernel_rfl) rfl rfl ⟨(blk_cell BK264.out 0).trans rfl,(blk_cell BK264.out 1).trans rfl,(blk_cell BK251.out 0).trans rfl,(blk_cell BK251.out 1).trans rfl,hx276_0,((HB.out.cell (World.block_lt_of_cell? w _ hw277_0)).trans hw277_0),((HB.out.cell (World.block_lt_of_cell? w _ hw278_0)).trans hw278_0)⟩ (fun hHeld => ?_);refine with_tabW spec_CloseSlot.tab20 spec_CloseSlot.bits20 (fun HT_ HW_ => ?_)
                        generalize wc.drew = w107 at HO_7 HO_265000 HO_265001 BK251 BK252 BK264 HB HL276_0 HR276_0 HR277_0 hx276_0 hx277_0 hx278_0 hHeld ⊢;refine pure_ (i:=0) (N:=some 121) (v:=?_) (a':=?_) #[true,false,false,false,false,false,false,false,false,false,false,false,false,false,false,false,false,false,false] rfl rfl (any_of HT_.out (by kernel_rfl)) (fun _ _ _ h => h) (Or.inl ⟨by rfl, ?_⟩) ?_ ?_
                        rotate_left
                        ·intro w'
                         go_simp
                         with_reducible rfl
                        rotate_left
                        ·simp only [Act.put,sA_,s0_,s1_,i64_w,i32_w]
                         rfl
                        refine pure_ (i:=2) (N:=some 123) (v:=?_) (a':=?_) #[true,false,true,false,false,false,false,false,false,false,false,false,false,false,false,false,false,false,false] rfl rfl (any_of HT_.out (by kernel_rfl)) (fun _ _ _ h => h) (Or.inl ⟨by rfl, ?_⟩) ?_ ?_
                        rotate_left
                        ·intro w'
                         go_simp
                         with_reducible rfl
                        rotate_left
                        ·simp only [Act.put,sA_,s0_,s1_,i64_w,i32_w]
                         rfl
                        refine pure_ (i:=3) (N:=some 124) (v:=?_) (a':=?_) #[true,false,true,true,false,false,false,false,false,false,false,false,false,false,false,false,false,false,false] rfl rfl (any_of HT_.out (by kernel_rfl)) (fun _ _ _ h => h) (Or.inl ⟨by rfl, ?_⟩) ?_ ?_
                        rotate_left
                        ·intro w'
                         go_simp
                         with_reducible rfl
                        rotate_left
                        ·simp only [Act.put,sA_,s0_,s1_,i64_w,i32_w]
                         rfl
                        refine pure_ (i:=5) (N:=some 126) (v:=?_) (a':=?_) #[true,false,true,true,false,true,false,false,false,false,false,false,false,false,false,false,false,false,false] rfl rfl (any_of HT_.out (by kernel_rfl)) (fun _ _ _ h => h) (Or.inl ⟨by rfl, ?_⟩) ?_ ?_
                        rotate_left
                        ·intro w'
                         go_simp
                         with_reducible rfl
                        rotate_left
                        ·simp only [Act.put,sA_,s0_,s1_,i64_w,i32_w]
                         rfl
                        refine pure_ (i:=8) (N:=some 129) (v:=?_) (a':=?_) #[true,false,true,true,false,true,false,false,true,false,false,false,false,false,false,false,false,false,false] rfl rfl (any_of HT_.out (by kernel_rfl)) (fun _ _ _ h => h) (Or.inl ⟨by rfl, ?_⟩) ?_ ?_
                        rotate_left
                        ·intro w'
                         go_simp
                         with_reducible rfl
                        rotate_left
                        ·simp only [Act.put,sA_,s0_,s1_,i64_w,i32_w]
                         rfl
                        refine pure_ (i:=10) (N:=some 131) (v:=?_) (a':=?_) #[true,false,true,true,false,true,false,false,true,false,true,false,false,false,false,false,false,false,false] rfl rfl (any_of HT_.out (by kernel_rfl)) (fun _ _ _ h => h) (Or.inl ⟨by rfl, ?_⟩) ?_ ?_
                        rotate_left
                        ·intro w'
                         go_simp
                         with_reducible rfl
                        rotate_left
                        ·simp only [Act.put,sA_,s0_,s1_,i64_w,i32_w]
                         rfl
                        refine pure_ (i:=13) (N:=some 134) (v:=?_) (a':=?_) #[true,false,true,true,false,true,false,false,true,false,true,false,false,true,false,false,false,false,false] rfl rfl (any_of HT_.out (by kernel_rfl)) (fun _ _ _ h => h) (Or.inl ⟨by rfl, ?_⟩) ?_ ?_
                        rotate_left
                        ·intro w'
                         go_simp
                         with_reducible rfl
                        rotate_left
                        ·simp only [Act.put,sA_,s0_,s1_,i64_w,i32_w]
                         rfl
                        refine take_ (i:=1) (N:=some 122) (v:=?_) (a':=?_) #[true,true,true,true,false,true,false,false,true,false,true,false,false,true,false,false,false,false,false] rfl rfl (take_ofW HT_.out HW_.out (by kernel_rfl)) (fun _ _ _ h => h) (Or.inl ⟨by rfl, ?_⟩) hHeld ?_ ?_
                        rotate_left
                        ·rintro w' ⟨s0,s1,s2,s3,s4,s5,s6⟩
                         go_simp
                         with_reducible rfl
                        rotate_left
                        ·simp only [Act.put,sA_,s0_,s1_,i64_w,i32_w]
                         rfl
                        refine take_ (i:=4) (N:=some 125) (v:=?_) (a':=?_) #[true,true,true,true,true,true,false,false,true,false,true,false,false,true,false,false,false,false,false] rfl rfl (take_ofW HT_.out HW_.out (by kernel_rfl)) (fun _ _ _ h => h) (Or.inl ⟨by rfl, ?_⟩) hHeld ?_ ?_
                        rotate_left
                        ·rintro w' ⟨s0,s1,s2,s3,s4,s5,s6⟩
                         go_simp
                         with_reducible rfl
                        rotate_left
                        ·simp only [Act.put,sA_,s0_,s1_,i64_w,i32_w]
                         rfl
                        refine pure_ (i:=6) (N:=some 127) (v:=?_) (a':=?_) #[true,true,true,true,true,true,true,false,true,false,true,false,false,true,false,false,false,false,false] rfl rfl (any_of HT_.out (by kernel_rfl)) (fun _ _ _ h => h) (Or.inl ⟨by rfl, ?_⟩) ?_ ?_
                        rotate_left
                        ·intro w'
                         go_simp
                         with_reducible rfl
                        rotate_left
                        ·simp only [Act.put,sA_,s0_,s1_,i64_w,i32_w]
                         rfl
                        refine take_ (i:=7) (N:=some 128) (v:=?_) (a':=?_) #[true,true,true,true,true,true,true,true,true,false,true,false,false,true,false,false,false,false,false] rfl rfl (take_ofW HT_.out HW_.out (by kernel_rfl)) (fun _ _ _ h => h) (Or.inl ⟨by rfl, ?_⟩) hHeld ?_ ?_
                        rotate_left
                        ·rintro w' ⟨s0,s1,s2,s3,s4,s5,s6⟩
                         go_simp
                         with_reducible rfl
                        rotate_left
                        ·simp only [Act.put,sA_,s0_,s1_,i64_w,i32_w]
                         rfl
                        refine take_ (i:=9) (N:=some 130) (v:=?_) (a':=?_) #[true,true,true,true,true,true,true,true,true,true,true,false,false,true,false,false,false,false,false] rfl rfl (take_ofW HT_.out HW_.out (by kernel_rfl)) (fun _ _ _ h => h) (Or.inl ⟨by rfl, ?_⟩) hHeld ?_ ?_
                        rotate_left
                        ·rintro w' ⟨s0,s1,s2,s3,s4,s5,s6⟩
                         go_simp
                         with_reducible rfl
                        rotate_left
                        ·simp only [Act.put,sA_,s0_,s1_,i64_w,i32_w]
                         rfl
                        refine pure_ (i:=11) (N:=some 132) (v:=?_) (a':=?_) #[true,true,true,true,true,true,true,true,true,true,true,true,false,true,false,false,false,false,false] rfl rfl (any_of HT_.out (by kernel_rfl)) (fun _ _ _ h => h) (Or.inl ⟨by rfl, ?_⟩) ?_ ?_
                        rotate_left
                        ·intro w'
                         go_simp
                         with_reducible rfl
                        rotate_left
                        ·simp only [Act.put,sA_,s0_,s1_,i64_w,i32_w]
                         rfl
                        refine take_ (i:=12) (N:=some 133) (v:=?_) (a':=?_) #[true,true,true,true,true,true,true,true,true,true,true,true,true,true,false,false,false,false,false] rfl rfl (take_ofW HT_.out HW_.out (by kernel_rfl)) (fun _ _ _ h => h) (Or.inl ⟨by rfl, ?_⟩) hHeld ?_ ?_
                        rotate_left
                        ·rintro w' ⟨s0,s1,s2,s3,s4,s5,s6⟩
                         go_simp
                         with_reducible rfl
                        rotate_left
                        ·simp only [Act.put,sA_,s0_,s1_,i64_w,i32_w]
                         rfl
                        refine pure_ (i:=14) (N:=some 135) (v:=?_) (a':=?_) #[true,true,true,true,true,true,true,true,true,true,true,true,true,true,true,false,false,false,false] rfl rfl (any_of HT_.out (by kernel_rfl)) (fun _ _ _ h => h) (Or.inl ⟨by rfl, ?_⟩) ?_ ?_
                        rotate_left
                        ·intro w'
                         go_simp
                         with_reducible rfl
                        rotate_left
                        ·simp only [Act.put,sA_,s0_,s1_,i64_w,i32_w]
                         rfl
                        refine take_ (i:=15) (N:=some 136) (v:=?_) (a':=?_) #[true,true,true,true,true,true,true,true,true,true,true,true,true,true,true,true,false,false,false] rfl rfl (take_ofW HT_.out HW_.out (by kernel_rfl)) (fun _ _ _ h => h) (Or.inl ⟨by rfl, ?_⟩) hHeld ?_ ?_
                        rotate_left
                        ·rintro w' ⟨s0,s1,s2,s3,s4,s5,s6⟩
                         go_simp
                         with_reducible rfl
                        rotate_left
                        ·simp only [Act.put,sA_,s0_,s1_,i64_w,i32_w]
                         rfl
                        refine one_ (i:=16) (N:=some 137) #[true,true,true,true,true,true,true,true,true,true,true,true,true,true,true,true,true,false,false] rfl rfl (one_of HT_.out (by kernel_rfl)) (by decide) (fun K hK => ?_);refine goes_ Try.func58 (by kernel_rfl) rfl #[.slice A276_0 (rd_L1 x265001_2 x10_3).length c276_0, .int .i64 (rd (rd_L1 l0_1 a1) x9_2)] (by rfl) rfl rfl (by (try simp only [List.map_toArray,List.map_cons,List.map_nil]);first | done | rfl | (simp only [List.length_drop,List.length_take];rfl)) ?_
                        with_reducible refine (spec_l1Put.calls kj51 _ _ (rd_L1 x265001_2 x10_3) (rd (rd_L1 l0_1 a1) x9_2) t279 _ ?side1 ?side2 A105.out).mono ?_
                        (case side1 => repeat (first | exact (by repeat (first | (with_reducible exact HR276_0.out) | (with_reducible refine Kd.C_alloc ?_ _) | (with_reducible refine Kd.C_drewN ?_ _) | (with_reducible refine Kd.C_drew ?_) | exact HR276_0.out)) | (with_reducible refine Kd.C_alloc ?_ _) | (with_reducible refine Kd.C_drewN ?_ _) | (with_reducible refine Kd.C_drew ?_)))
                        (case side2 => exact HC276_0.out)
                        rintro e w109 ⟨v280,rfl,ho0,hb⟩;have HS4_:=(hb.cell (World.block_lt_of_cell? _ _ (hHeld.2.2.2.2.1))).trans (hHeld.2.2.2.2.1);refine ⟨_,rfl, ?_⟩;have n0_:=am_ (Kd.R_elder' (by (with_reducible repeat (first | apply Kd.R_alloc | apply Kd.R_drewN | apply Kd.R_drew));exact HO_7.out) (Kd.R_base ho0) hb);have n1_:=am_ (Kd.R_elder' (by (with_reducible repeat (first | apply Kd.R_alloc | apply Kd.R_drewN | apply Kd.R_drew));exact HO_265000.out) (Kd.R_base ho0) hb);have n2_:=am_ (Kd.N_elder' (by (with_reducible repeat (first | apply Kd.N_alloc | apply Kd.N_drewN | apply Kd.N_drew));exact HO_265001.out) (Kd.R_base ho0) hb);have n3_:=am_ (Kd.V_elder' (by (with_reducible repeat (first | apply Kd.V_alloc | apply Kd.V_drewN | apply Kd.V_drew));exact HL276_0.out) (Kd.R_base ho0) hb);have n4_:=am_ (Kd.R_lower (Kd.R_new' (Kd.R_new' (Kd.R_newM (M:=fun k_ => (w.heap.size ≤ k_)) ho0 (below_size (by repeat (first | (with_reducible first | exact HB.out | apply below_alloc | apply pw_below_drewN | apply below_drew1 | refine below_set ?_ GE251.out | refine below_set ?_ GE252.out | refine below_set ?_ GE264.out) | exact HB.out))) (fun k_ h_ => h_)) (Kd.R_lt (by (with_reducible repeat (first | apply Kd.R_alloc | apply Kd.R_drewN | apply Kd.R_drew));exact HO_7.out))) (Kd.R_lt (by (with_reducible repeat (first | apply Kd.R_alloc | apply Kd.R_drewN | apply Kd.R_drew));exact HO_265000.out))) (below_size (by repeat (first | (with_reducible first | exact HB.out | apply below_alloc | apply pw_below_drewN | apply below_drew1 | refine below_set ?_ GE251.out | refine below_set ?_ GE252.out | refine below_set ?_ GE264.out) | exact HB.out))));have n5_:=am_ (blk_below (g:=gb251) (o := .cells #[.slice A0_0 l0_0.length c0_0, .slice (some ad270) l0_1.length c0_1] 27 (0,0)) (by (with_reducible repeat (first | refine blk_drewN ?_ _ | refine blk_drew ?_ | refine blk_alloc ?_ _));exact BK251.out) hb);have n6_:=am_ (blk_below (g:=gb252) (o := .cells #[.slice none 0 0, .slice none 0 0] 27 (0,0)) (by (with_reducible repeat (first | refine blk_drewN ?_ _ | refine blk_drew ?_ | refine blk_alloc ?_ _));exact BK252.out) hb);have n7_:=am_ (blk_below (g:=gb264) (o := .cells #[.slice (some ⟨go25,0,none⟩) y265.length co32, .slice (some ad276) x265001_2.length co108] 27 (0,0)) (by (with_reducible repeat (first | refine blk_drewN ?_ _ | refine blk_drew ?_ | refine blk_alloc ?_ _));exact BK264.out) hb);have n8_:=am_ (Kd.C_below (by repeat (first | (with_reducible exact HR276_0.out) | (with_reducible refine Kd.C_alloc ?_ _) | (with_reducible refine Kd.C_drewN ?_ _) | (with_reducible refine Kd.C_drew ?_) | exact HR276_0.out)) hb);have n9_:=am_ (below_step (by repeat (first | (with_reducible first | exact HB.out | apply below_alloc | apply pw_below_drewN | apply below_drew1 | refine below_set ?_ GE251.out | refine below_set ?_ GE252.out | refine below_set ?_ GE264.out) | exact HB.out)) hb);clear HO_7;clear HO_265000;clear HO_265001;clear HL276_0;clear BK251;clear BK252;clear BK264;clear HR276_0;clear HB;have HO_7:=n0_;have HO_265000:=n1_;have HO_265001:=n2_;have HL276_0:=n3_;have HO281:=n4_;have BK251:=n5_;have BK252:=n6_;have BK264:=n7_;have HR276_0:=n8_;have HB:=n9_;clear n0_ n1_ n2_ n3_ n4_ n5_ n6_ n7_ n8_ n9_;(try clear hb);(try clear hb2);(try clear hk);(try clear hi);(try clear ho0);have p106 : 0 ≤ (x10_3 : Int):=of_decide_eq_true (by first | (with_reducible assumption) | assumption);have q106 : (x10_3 : Int) < ((x265001_2.length : Int) : Int):=of_decide_eq_true (by first | (with_reducible assumption) | assumption);obtain ⟨go106,co106,eo106,gb106,gl106,cl106,HG106⟩ := Kd.N_form HO_265001.out (by omega)
                        (first | cases eo106 | (injection eo106 with ea_ en_ ec_;(first | subst ea_ | (injection ea_ with ea_;subst ea_));subst ec_;clear en_))
                        have GB106:=am_ gb106;have GG106:=am_ HG106;clear gb106 gl106 HG106
                        (first | simp only [add_plain] at hx276_0 | skip)
                        obtain ⟨ce106,hcl106,hM106,hcc106,hfr106⟩ := Kd.N_elem HO_265001.out [] (x10_3 : Int) p106 q106;obtain ⟨ua106_0,uc106_0,rfl,ul106_0,ge106_0⟩ := Kd.FK_slice_open hM106;have hx106_0:=hcc106 0 _ rfl;have hf106_0:=hfr106 0;(try simp only [show ((Kd.slice 3 (Kd.int .i64))).sz = 1 from rfl,Nat.mul_one,Nat.add_zero] at hx106_0);(try simp only [show ((Kd.slice 3 (Kd.int .i64))).sz = 1 from rfl,Nat.mul_one,Nat.add_zero] at hf106_0)
                        clear hcl106 hcc106 hfr106;(try clear hM106)
                        replace p106:=eq_true p106;replace q106:=eq_true q106;have HX110:=am_ (show Kd.N (Kd.slice 3 (Kd.int .i64)) 24 _ w.heap.size (fun k_ => (w.heap.size ≤ k_) ∧ some k_ ≠ (u7 : Value).ownBlock ∧ some k_ ≠ (.slice (some ⟨go25,0,none⟩) y265.length co32 : Value).ownBlock ∧ some k_ ≠ (v280 : Value).ownBlock ∧ k_ ≠ gb251 ∧ k_ ≠ gb252 ∧ k_ ≠ gb264) (.slice (some ⟨go106,0,none⟩) x265001_2.length co108) x265001_2 from (Kd.N_mono (HO_265001.out) (fun k_ hk => ⟨hk.1.1,⟨hk.1.2.1,⟨hk.1.2.2.1,⟨hk.2,⟨hk.1.2.2.2.1,⟨hk.1.2.2.2.2.1,hk.1.2.2.2.2.2⟩⟩⟩⟩⟩⟩)));replace HX110:=am_ (show Kd.N (Kd.slice 3 (Kd.int .i64)) 24 _ w.heap.size (fun k_ => (w.heap.size ≤ k_) ∧ some k_ ≠ (u7 : Value).ownBlock ∧ some k_ ≠ (.slice (some ⟨go25,0,none⟩) y265.length co32 : Value).ownBlock ∧ k_ ≠ gb251 ∧ k_ ≠ gb252 ∧ k_ ≠ gb264) (.slice (some ⟨go106,0,none⟩) x265001_2.length co108) x265001_2 from Kd.N_mono HX110.out (fun k_ hk => ⟨hk.1,⟨hk.2.1,⟨hk.2.2.1,⟨hk.2.2.2.2.1,⟨hk.2.2.2.2.2.1,hk.2.2.2.2.2.2⟩⟩⟩⟩⟩));obtain ⟨ce110,hcl110,hM110,hcc110,hfr110⟩ := Kd.N_elem HX110.out [] (x10_3 : Int) (of_decide_eq_true (by first | (with_reducible assumption) | assumption)) (by have h_ : (x10_3 : Int) < ((x265001_2.length : Int) : Int):=of_decide_eq_true (by first | (with_reducible assumption) | assumption);first | exact h_ | (have e_:=(Kd.N_reads' HO_265001.out).1;omega) | simpa using h_);obtain ⟨ua110_0,uc110_0,rfl,ul110_0,ge110_0⟩ := Kd.FK_slice_open hM110;have HP110:=(Kd.N_seg HX110.out (x10_3 : Int) (of_decide_eq_true (by first | (with_reducible assumption) | assumption)) (by have h_ : (x10_3 : Int) < ((x265001_2.length : Int) : Int):=of_decide_eq_true (by first | (with_reducible assumption) | assumption);first | exact h_ | (have e_:=(Kd.N_reads' HO_265001.out).1;omega) | simpa using h_) (seg := [v280]) (j:=0) hcl110 hcc110 (show 1 ≤ 1 from by decide) (x':=t279) (Kd.FK_row (Kd.R_mono (ok':=(fun k_ => ((fun k_ => (w.heap.size ≤ k_) ∧ some k_ ≠ (u7 : Value).ownBlock ∧ some k_ ≠ (.slice (some ⟨go25,0,none⟩) y265.length co32 : Value).ownBlock ∧ k_ ≠ gb251 ∧ k_ ≠ gb252 ∧ k_ ≠ gb264)) k_ ∧ k_ ≠ go106)) (Kd.R_types (Kd.R_types (Kd.R_types (Kd.R_apart' (HO281.out) (Kd.N_typed HO_265001.out) (by decide)) BK251.out (by decide)) BK252.out (by decide)) BK264.out (by decide)) (fun k_ hk => ⟨⟨hk.1.1.1.1.1.1.1,⟨hk.1.1.1.1.1.2,⟨hk.1.1.1.1.2,⟨hk.1.1.2,⟨hk.1.2,hk.2⟩⟩⟩⟩⟩,fun e_ => (hk.1.1.1.2) (by rw [e_];rfl)⟩))) (fun _ hk => hk)).1;(try simp only [show ((Kd.slice 3 (Kd.int .i64))).sz = 1 from rfl,Nat.mul_one,Nat.add_zero] at HP110);rw [← Ny282.out] at HP110;have HQ110:=am_ HP110
                        clear hcl110 hcc110 hfr110 HP110;(try clear hM110)
                        refine hK.out _ _ ⟨(blk_cell BK264.out 0).trans rfl,(blk_cell BK264.out 1).trans rfl,(blk_cell BK251.out 0).trans rfl,(blk_cell BK251.out 1).trans rfl,HS4_,((HB.out.cell (World.block_lt_of_cell? w _ hw277_0)).trans hw277_0),((HB.out.cell (World.block_lt_of_cell? w _ hw278_0)).trans hw278_0)⟩ (fun hHeld => ?_);clear hK K;refine norm_ (a':=?_) ?_ ?_
                        rotate_left
                        ·show Act.put _ (some 137) _ = _
                         simp only [Act.put,sA_,s0_,s1_,i64_w,i32_w]
                         rfl
                        refine pure_ (i:=17) (N:=some 138) (v:=?_) (a':=?_) #[true,true,true,true,true,true,true,true,true,true,true,true,true,true,true,true,true,true,false] rfl rfl (any_of HT_.out (by kernel_rfl)) (fun _ _ _ h => h) (Or.inl ⟨by rfl, ?_⟩) ?_ ?_
                        rotate_left
                        ·intro w'
                         go_simp
                         with_reducible rfl
                        rotate_left
                        ·simp only [Act.put,sA_,s0_,s1_,i64_w,i32_w]
                         rfl
                        refine last_ (i:=18) (N:=none) #[true,true,true,true,true,true,true,true,true,true,true,true,true,true,true,true,true,true,true] rfl rfl (one_of HT_.out (by kernel_rfl)) (by decide) (fun K hK => ?_);obtain ⟨Aq_,cq_,eq0_⟩ := Kd.R_slice HO281.out;have EQ_:=am_ eq0_;clear eq0_;refine skip_ (w1:=?_) (by rfl) rfl ?_ ?_
                        rotate_left
                        ·have eq_:=EQ_.out
                         go_simp
                         rw [← eq_]
                         try rfl
                        clear EQ_;refine hK.out _ _ ?_;clear hK K;refine done_ (done_of HT_.out (by kernel_rfl)) ?_
                        try go_wp2
                        (try simp only [← hl265000_2])
                        go_roundg kj51
                        case measure => have:=HJ2.out;have:=HK2.out;have:=HK3.out;have:=HJ51.out;omega
                        case rel => exact ⟨(x7_2),(wrap64 (x9_2 + 1)),(y282),(.slice (some ⟨go106,0,none⟩) x265001_2.length co108),(by first | rfl | (simp;done) | (simp [*];done)),H',⟨by have:=HJ2.out;have:=HK2.out;have:=HK3.out;have:=HJ51.out;omega⟩,⟨by (try simp only [hl265000_2]);(with_reducible repeat (first | apply Kd.R_alloc | apply Kd.R_drewN | apply Kd.R_drew));exact Kd.R_mono (Kd.R_far (p:=⟨go106,(x10_3 : Int).toNat,none⟩) (Kd.R_types HO_7.out GG106.out (by decide)) (fun _ hk => hk.2) (v280)) (fun _ hk => ⟨hk.1.1.1,hk.1.1.2⟩)⟩,⟨by (try simp only [hl265000_2]);(with_reducible repeat (first | apply Kd.R_alloc | apply Kd.R_drewN | apply Kd.R_drew));exact Kd.R_mono (Kd.R_far (p:=⟨go106,(x10_3 : Int).toNat,none⟩) (Kd.R_types HO_265000.out GG106.out (by decide)) (fun _ hk => hk.2) (v280)) (fun _ hk => ⟨hk.1.1.1,hk.1.1.2⟩)⟩,⟨by (try simp only [hl265000_2]);(with_reducible repeat (first | apply Kd.N_alloc | apply Kd.N_drewN | apply Kd.N_drew));exact HQ110.out⟩,⟨by (try simp only [hl265000_2]);(with_reducible repeat (first | refine blk_drewN ?_ _ | refine blk_drew ?_ | refine blk_alloc ?_ _));refine blk_far ?_ (by have h_:=Kd.N_away HX110.out (fun _ hk => hk.2.2.2.1);intro e_;exact h_ (by rw [e_];rfl)) _;(with_reducible repeat (first | refine blk_drewN ?_ _ | refine blk_drew ?_ | refine blk_alloc ?_ _));exact BK251.out⟩,⟨by (try simp only [hl265000_2]);(with_reducible repeat (first | refine blk_drewN ?_ _ | refine blk_drew ?_ | refine blk_alloc ?_ _));refine blk_far ?_ (by have h_:=Kd.N_away HX110.out (fun _ hk => hk.2.2.2.2.1);intro e_;exact h_ (by rw [e_];rfl)) _;(with_reducible repeat (first | refine blk_drewN ?_ _ | refine blk_drew ?_ | refine blk_alloc ?_ _));exact BK252.out⟩,⟨by (try simp only [hl265000_2]);(with_reducible repeat (first | refine blk_drewN ?_ _ | refine blk_drew ?_ | refine blk_alloc ?_ _));refine blk_far ?_ (by have h_:=Kd.N_away HX110.out (fun _ hk => hk.2.2.2.2.2);intro e_;exact h_ (by rw [e_];rfl)) _;(with_reducible repeat (first | refine blk_drewN ?_ _ | refine blk_drew ?_ | refine blk_alloc ?_ _));exact BK264.out⟩,⟨by repeat (first | (with_reducible first | exact HB.out | apply below_alloc | apply pw_below_drewN | apply below_drew1 | refine below_set ?_ GB106.out | refine below_set ?_ GE251.out | refine below_set ?_ GE252.out | refine below_set ?_ GE264.out) | exact HB.out)⟩⟩
                       ·rw [if_neg c104] at H
                        exact absurd H (by simp)
                      ·rw [if_neg c103] at H
                       exact absurd H (by simp)
                     ·rw [if_neg c102] at H
                      exact absurd H (by simp)
                    ·rw [if_neg c101] at H
                     exact absurd H (by simp)
                   ·rw [if_neg c100] at H
                    exact absurd H (by simp)
                  ·rw [if_neg c99] at H
                   exact absurd H (by simp)
           ·rw [if_neg c48] at H;have c48b0 : decide (x9_2 < ((rd_L1 l0_1 a1).length : Int)) = false:=decide_eq_false c48;clear c48;simp only [Option.some.injEq,Prod.mk.injEq] at H;obtain ⟨rfl,rfl,rfl,rfl⟩ := H;have hnb111:=NB251_252.out;have hnc111:=NB252_251.out;have hnb112:=NB251_264.out;have hnc112:=NB264_251.out;have hcz113_0:=c2_0 BK251.out;have hcz113_1:=c2_1 BK251.out;have hfz113_0:=blk_frozen BK251.out 0;have hfz113_1:=blk_frozen BK251.out 1;have p270 : 0 ≤ (a1 : Int):=of_decide_eq_true (by first | (with_reducible assumption) | assumption);have q270 : a1 < (l0_1.length : Int):=of_decide_eq_true (by first | (with_reducible assumption) | assumption);obtain ⟨ad270,A270_0,c270_0,e270,hx270_0,hl270_0,hi270_0⟩ := at_L1 HR0_1.out a1 p270 q270;cases e270;replace hx270_0:=(HB.out.cell (World.block_lt_of_cell? w _ hx270_0)).trans hx270_0;have HR270_0:=am_ hi270_0;have HC270_0:=am_ hl270_0;clear hi270_0 hl270_0;replace p270:=eq_true p270;replace q270:=eq_true q270;have hnb114:=NB264_252.out;have hnc114:=NB252_264.out;have hcz115_0:=c2_0 BK264.out;have hcz115_1:=c2_1 BK264.out;have hfz115_0:=blk_frozen BK264.out 0;have hfz115_1:=blk_frozen BK264.out 1;have hcz116_0:=c2_0 BK252.out;have hcz116_1:=c2_1 BK252.out;have hfz116_0:=blk_frozen BK252.out 0;have hfz116_1:=blk_frozen BK252.out 1;obtain ⟨Ao117,co117,eo117⟩ := Kd.N_slice HO_265001.out;subst eo117
            go_wp2
            refine bodyPost_ret (results_ctt rfl _ _ gb252 27 #[.slice (some ⟨go25,0,none⟩) y265.length co32, .slice Ao117 x265001_2.length co117] (0,0) _ rfl (by (with_reducible repeat (first | refine blk_drewN ?_ _ | refine blk_drew ?_ | refine blk_alloc ?_ _));refine blk_put (cs:=#[.slice (some ⟨go25,0,none⟩) y265.length co32, .slice none 0 0]) ?_ 1 _ rfl;(with_reducible repeat (first | refine blk_drewN ?_ _ | refine blk_drew ?_ | refine blk_alloc ?_ _));refine blk_put (cs:=#[.slice none 0 0, .slice none 0 0]) ?_ 0 _ rfl;(with_reducible repeat (first | refine blk_drewN ?_ _ | refine blk_drew ?_ | refine blk_alloc ?_ _));exact BK252.out) Try.underlying27 rfl (by kernel_rfl)) rfl ?_
            exact ⟨_,_,_,by first | rfl | (simp [errW_none,errW_some] <;> rfl) | (simp [*,errW_none,errW_some] <;> rfl),by (with_reducible repeat (first | apply Kd.R_alloc | apply Kd.R_drewN | apply Kd.R_drew));exact Kd.R_mono (rf2_ (Kd.R_types HO_265000.out BK252.out (by decide)) (.slice (some ⟨go25,0,none⟩) y265.length co32) (.slice Ao117 x265001_2.length co117)) (fun _ hk => ⟨hk.1.1,hk.1.2⟩),by (with_reducible repeat (first | apply Kd.N_alloc | apply Kd.N_drewN | apply Kd.N_drew));exact Kd.N_mono (Kd.N_far (p:=⟨gb252,1,none⟩) (Kd.N_far (p:=⟨gb252,0,none⟩) (Kd.N_mono HO_265001.out (fun k_ hk => (⟨hk,hk.2.2.2.2.1⟩ : _ ∧ k_ ≠ gb252))) (fun _ hk => hk.2) (.slice (some ⟨go25,0,none⟩) y265.length co32)) (fun _ hk => hk.2) (.slice Ao117 x265001_2.length co117)) (fun _ hk => ⟨hk.1.1,⟨hk.1.2.2.1,hk.1.2.1⟩⟩),by (with_reducible repeat (first | apply Kd.R_alloc | apply Kd.R_drewN | apply Kd.R_drew));exact Kd.R_mono (rf2_ (Kd.R_types HO_7.out BK252.out (by decide)) (.slice (some ⟨go25,0,none⟩) y265.length co32) (.slice Ao117 x265001_2.length co117)) (fun _ hk => ⟨hk.1.1,hk.1.2⟩),by repeat (first | (with_reducible first | exact HB.out | apply below_alloc | apply pw_below_drewN | apply below_drew1 | refine below_set ?_ GE251.out | refine below_set ?_ GE252.out | refine below_set ?_ GE264.out) | exact HB.out)⟩
          ·rw [if_neg c47] at H
           exact absurd H (by simp)
         ·rw [if_neg c46] at H
          exact absurd H (by simp)
      ·rw [if_neg c26] at H
       exact absurd H (by simp)
     ·rw [if_neg c24] at H
      exact absurd H (by simp)
    ·rw [if_neg c23] at H
     exact absurd H (by simp)

end Go.Proofs.Ytglfjaaaegfdnaa.PFnExactCloseSlot
