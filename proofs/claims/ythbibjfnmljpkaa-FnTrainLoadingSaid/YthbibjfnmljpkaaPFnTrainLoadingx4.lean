-- Written by a program of this session, over the kit's print (wip/xprint.py)
import Derived.Test.YthbibjfnmljpkaaPFnTrainLoadingx0
import Derived.Test.YthbibjfnmljpkaaPFnTrainLoadingx3
namespace Go.Proofs.Ythbibjfnmljpkaa.PFnTrainLoading
open Go.RowKit Go.Proofs.YthbibjfnmljpkaaW.PrintWords Go.Proofs.YthbibjfnmljpkaaW.PrintLast Go.Proofs.YthbibjfnmljpkaaW.PrintMore
attribute [local go_sem] max2_int min2_int max_two min_two max_three min_three max_four min_four   -- for this text's walks alone
set_option linter.unusedVariables false
set_option linter.unusedSimpArgs false

/-! ### slices_IndexFunc_impl_Container: function 83 -/
def slices_IndexFunc_impl_Container.l0 : Nat → List (S64) → Int → Int → ByteArray → Option (Int)
 | 0,_,_,_,_ => none
 | k + 1,x0,x7,x8,x902000 => if x8 < x7 then (if 0 ≤ x8 then (if x8 < (x0.length : Int) then ((impl_indexOf_1.f ((rd_T64 x0 x8).f0) ((rd_T64 x0 x8).f1) ((rd_T64 x0 x8).f2) ((rd_T64 x0 x8).f3) ((rd_T64 x0 x8).f4) x902000).bind fun t172 => (if t172 = true then (some x8) else (slices_IndexFunc_impl_Container.l0 k x0 x7 (wrap64 (x8 + 1)) x902000))) else (none)) else (none)) else (some (-1))
def slices_IndexFunc_impl_Container.f (k : Nat) (l0 : List (S64)) (a1_0 : ByteArray) : Option (Int):=slices_IndexFunc_impl_Container.l0 k l0 (l0.length : Int) 0 a1_0
theorem slices_IndexFunc_impl_Container.mono_l : ∀ k,(∀ y0 y1 y2 y3,LeO (slices_IndexFunc_impl_Container.l0 k y0 y1 y2 y3) (slices_IndexFunc_impl_Container.l0 (k + 1) y0 y1 y2 y3))
 | 0 => fun _ _ _ _ r h => by simp [slices_IndexFunc_impl_Container.l0] at h
 | k + 1 => by
  have ih0:=slices_IndexFunc_impl_Container.mono_l k
  ·intro y0 y1 y2 y3
   unfold slices_IndexFunc_impl_Container.l0
   repeat' first
   | (with_reducible exact ih0 _ _ _ _)
   | (with_reducible exact LeO.refl _)
   | (with_reducible exact LeO.none _)
   | (with_reducible refine LeO.ite ?_ ?_)
   | (with_reducible refine LeO.bind ?_ (fun _ => ?_))
   | exact ih0 _ _ _ _
   | exact LeO.none _
   | refine LeO.ite ?_ ?_
   | refine LeO.bind ?_ (fun _ => ?_)
theorem slices_IndexFunc_impl_Container.mono : ∀ a0 a1 k,LeO (slices_IndexFunc_impl_Container.f k a0 a1) (slices_IndexFunc_impl_Container.f (k + 1) a0 a1):=by
 intro a0 a1 k;have ih0:=slices_IndexFunc_impl_Container.mono_l k
 unfold slices_IndexFunc_impl_Container.f
 repeat' first
   | (with_reducible exact ih0 _ _ _ _)
   | (with_reducible exact LeO.refl _)
   | (with_reducible exact LeO.none _)
   | (with_reducible refine LeO.ite ?_ ?_)
   | (with_reducible refine LeO.bind ?_ (fun _ => ?_))
   | exact ih0 _ _ _ _
   | exact LeO.none _
   | refine LeO.ite ?_ ?_
   | refine LeO.bind ?_ (fun _ => ?_)
set_option maxHeartbeats 8000000 in
set_option maxRecDepth 100000 in
theorem slices_IndexFunc_impl_Container.calls (k : Nat) (A0 : Option Addr) (c0 : Nat) (l0 : List (S64)) (a1_0 : ByteArray) {G1_0 : Nat} (r : Int) (w : World) (hr0 : Kd.C k64 w A0 l0.length l0) (hc0 : l0.length ≤ c0) (hg1_0 : w.cell? ⟨G1_0,0,none⟩ = some (.string a1_0)) (h : slices_IndexFunc_impl_Container.f k l0 a1_0 = some r) :
  Calls Try.prog 83 #[.slice A0 l0.length c0,(.func (.func 84) #[] #[.pointer (some ⟨G1_0,0,none⟩)])] w fun e w' => e = .returned (.int .i64 r) ∧ Below w.heap.size w w':=by
 have hu64:=Try.underlying64;have HR0:=am_ hr0;have HC0:=am_ hc0;clear hr0 hc0;have HB:=am_ (Below.refl w.heap.size w);have H : (slices_IndexFunc_impl_Container.l0 k l0 (l0.length : Int) 0 a1_0) = some r:=h;clear h;have H':=am_ H;clear H
 go_enter Try.func83,Try.ntmps83
 go_wp2
 go_loopg [8] k (fun kq v8 w' => ∃ (x8_1 : Int),v8 = .int .i64 x8_1 ∧ Aside0 (slices_IndexFunc_impl_Container.l0 kq l0 (l0.length : Int) x8_1 a1_0 = some r) ∧ Aside0 (kq ≤ k) ∧ Aside0 (Below w.heap.size w w'))
 case atStart => exact ⟨(0),(by rfl),H',⟨Nat.le_refl _⟩,⟨by exact HB.out⟩⟩
 case round =>
  clear H';(try clear p2);obtain ⟨x8_1,rfl,HA,HK1,HB⟩ := hrel
  cases gk with
  | zero => exact absurd HA.out (by simp [slices_IndexFunc_impl_Container.l0])
  | succ k1 =>
   have H:=HA.out;clear HA;simp only [slices_IndexFunc_impl_Container.l0] at H
   by_cases c3 : x8_1 < (l0.length : Int)
   ·rw [if_pos c3] at H;have c3b0 : decide (x8_1 < (l0.length : Int)) = true:=decide_eq_true c3;clear c3
    by_cases c4 : 0 ≤ x8_1
    ·rw [if_pos c4] at H;have c4b0 : decide (0 ≤ x8_1) = true:=decide_eq_true c4;clear c4
     by_cases c5 : x8_1 < (l0.length : Int)
     ·rw [if_pos c5] at H;have c5b0 : decide (x8_1 < (l0.length : Int)) = true:=decide_eq_true c5;clear c5;replace H:=Option.bind_eq_some_iff.mp H;obtain ⟨t172,A60,H⟩ := H;replace H : (if t172 = true then (some x8_1) else (slices_IndexFunc_impl_Container.l0 k1 l0 (l0.length : Int) (wrap64 (x8_1 + 1)) a1_0)) = some r:=H;have A6:=am_ A60;clear A60
      by_cases c7 : t172 = true
      ·subst c7
       have H1 : (some x8_1) = some r:=by rw [if_pos rfl] at H;exact H
       clear H;have H:=H1;clear H1;obtain rfl:=Option.some.inj H;have p171 : 0 ≤ (x8_1 : Int):=of_decide_eq_true (by (with_reducible assumption));have q171 : x8_1 < (l0.length : Int):=of_decide_eq_true (by (with_reducible assumption));obtain ⟨ad171,e171,hx171_0,hx171_1,hx171_2,hx171_3,hx171_4⟩ := at_T64 HR0.out x8_1 p171 q171;cases e171;replace hx171_0:=(HB.out.cell (World.block_lt_of_cell? w _ hx171_0)).trans hx171_0;replace hx171_1:=(HB.out.cell (World.block_lt_of_cell? w _ hx171_1)).trans hx171_1;replace hx171_2:=(HB.out.cell (World.block_lt_of_cell? w _ hx171_2)).trans hx171_2;replace hx171_3:=(HB.out.cell (World.block_lt_of_cell? w _ hx171_3)).trans hx171_3;replace hx171_4:=(HB.out.cell (World.block_lt_of_cell? w _ hx171_4)).trans hx171_4;replace p171:=eq_true p171;replace q171:=eq_true q171
       go_wp2_with (((with_reducible refine gateV_ (x := .tmp 11) rfl ?_);refine goesD_ (some 16) rfl rfl Try.func84 (by kernel_rfl) rfl #[.pointer (some ⟨G1_0,0,none⟩)] #[.agg #[.string ((rd_T64 l0 x8_1).f0), .int .i64 ((rd_T64 l0 x8_1).f1), .int .i64 ((rd_T64 l0 x8_1).f2), .int .i64 ((rd_T64 l0 x8_1).f3), .int .i64 ((rd_T64 l0 x8_1).f4)]] #[.agg #[.string ((rd_T64 l0 x8_1).f0), .int .i64 ((rd_T64 l0 x8_1).f1), .int .i64 ((rd_T64 l0 x8_1).f2), .int .i64 ((rd_T64 l0 x8_1).f3), .int .i64 ((rd_T64 l0 x8_1).f4)], .pointer (some ⟨G1_0,0,none⟩)] rfl rfl (by (try simp only [List.map_toArray,List.map_cons,List.map_nil]);rfl) rfl ?_;(with_reducible refine (impl_indexOf_1.calls (hg1:=?sg0) ((rd_T64 l0 x8_1).f0) ((rd_T64 l0 x8_1).f1) ((rd_T64 l0 x8_1).f2) ((rd_T64 l0 x8_1).f3) ((rd_T64 l0 x8_1).f4) a1_0 true _ A6.out).mono ?_);(case sg0 => exact (by exact (Below.cell (by exact HB.out) (World.block_lt_of_cell? w _ hg1_0)).trans hg1_0));rintro e w8 ⟨rfl,hb⟩;refine ⟨_,rfl, ?_⟩;have n0_:=am_ (below_step (by exact HB.out) hb);clear HB;have HB:=n0_;clear n0_;(try clear hb)))
       go_ret
       exact ⟨by rfl,by exact HB.out⟩
      ·replace c7:=Bool.eq_false_iff.mpr c7;subst c7
       have H1 : (slices_IndexFunc_impl_Container.l0 k1 l0 (l0.length : Int) (wrap64 (x8_1 + 1)) a1_0) = some r:=by rw [if_neg (show ¬ (false = true) by decide)] at H;exact H
       clear H;have H:=H1;clear H1;have H':=am_ H;clear H;have p171 : 0 ≤ (x8_1 : Int):=of_decide_eq_true (by (with_reducible assumption));have q171 : x8_1 < (l0.length : Int):=of_decide_eq_true (by (with_reducible assumption));obtain ⟨ad171,e171,hx171_0,hx171_1,hx171_2,hx171_3,hx171_4⟩ := at_T64 HR0.out x8_1 p171 q171;cases e171;replace hx171_0:=(HB.out.cell (World.block_lt_of_cell? w _ hx171_0)).trans hx171_0;replace hx171_1:=(HB.out.cell (World.block_lt_of_cell? w _ hx171_1)).trans hx171_1;replace hx171_2:=(HB.out.cell (World.block_lt_of_cell? w _ hx171_2)).trans hx171_2;replace hx171_3:=(HB.out.cell (World.block_lt_of_cell? w _ hx171_3)).trans hx171_3;replace hx171_4:=(HB.out.cell (World.block_lt_of_cell? w _ hx171_4)).trans hx171_4;replace p171:=eq_true p171;replace q171:=eq_true q171
       go_wp2_with (((with_reducible refine gateV_ (x := .tmp 11) rfl ?_);refine goesD_ (some 16) rfl rfl Try.func84 (by kernel_rfl) rfl #[.pointer (some ⟨G1_0,0,none⟩)] #[.agg #[.string ((rd_T64 l0 x8_1).f0), .int .i64 ((rd_T64 l0 x8_1).f1), .int .i64 ((rd_T64 l0 x8_1).f2), .int .i64 ((rd_T64 l0 x8_1).f3), .int .i64 ((rd_T64 l0 x8_1).f4)]] #[.agg #[.string ((rd_T64 l0 x8_1).f0), .int .i64 ((rd_T64 l0 x8_1).f1), .int .i64 ((rd_T64 l0 x8_1).f2), .int .i64 ((rd_T64 l0 x8_1).f3), .int .i64 ((rd_T64 l0 x8_1).f4)], .pointer (some ⟨G1_0,0,none⟩)] rfl rfl (by (try simp only [List.map_toArray,List.map_cons,List.map_nil]);rfl) rfl ?_;(with_reducible refine (impl_indexOf_1.calls (hg1:=?sg0) ((rd_T64 l0 x8_1).f0) ((rd_T64 l0 x8_1).f1) ((rd_T64 l0 x8_1).f2) ((rd_T64 l0 x8_1).f3) ((rd_T64 l0 x8_1).f4) a1_0 false _ A6.out).mono ?_);(case sg0 => exact (by exact (Below.cell (by exact HB.out) (World.block_lt_of_cell? w _ hg1_0)).trans hg1_0));rintro e w9 ⟨rfl,hb⟩;refine ⟨_,rfl, ?_⟩;have n0_:=am_ (below_step (by exact HB.out) hb);clear HB;have HB:=n0_;clear n0_;(try clear hb)))
       go_roundg k1
       case measure => have:=HK1.out;omega
       case rel => exact ⟨(wrap64 (x8_1 + 1)),(by rfl),H',⟨by have:=HK1.out;omega⟩,⟨by exact HB.out⟩⟩
     ·rw [if_neg c5] at H
      exact absurd H (by simp)
    ·rw [if_neg c4] at H
     exact absurd H (by simp)
   ·rw [if_neg c3] at H;have c3b0 : decide (x8_1 < (l0.length : Int)) = false:=decide_eq_false c3;clear c3;obtain rfl:=Option.some.inj H
    go_wp2
    go_ret
    exact ⟨by rfl,by exact HB.out⟩

/-! ### impl_indexOf: function 70 -/
def impl_indexOf.f (k : Nat) (l0 : List (S64)) (a1 : ByteArray) : Option (Int):=(slices_IndexFunc_impl_Container.f k l0 a1).bind fun t174 => (some t174)
theorem impl_indexOf.mono : ∀ a0 a1 k,LeO (impl_indexOf.f k a0 a1) (impl_indexOf.f (k + 1) a0 a1):=by
 intro a0 a1 k
 unfold impl_indexOf.f
 repeat' first
   | (with_reducible exact slices_IndexFunc_impl_Container.mono _ _ _)
   | (with_reducible exact LeO.refl _)
   | (with_reducible exact LeO.none _)
   | (with_reducible refine LeO.ite ?_ ?_)
   | (with_reducible refine LeO.bind ?_ (fun _ => ?_))
   | exact slices_IndexFunc_impl_Container.mono _ _ _
   | exact LeO.none _
   | refine LeO.ite ?_ ?_
   | refine LeO.bind ?_ (fun _ => ?_)
set_option maxHeartbeats 8000000 in
set_option maxRecDepth 100000 in
theorem impl_indexOf.calls (k : Nat) (A0 : Option Addr) (c0 : Nat) (l0 : List (S64)) (a1 : ByteArray) (r : Int) (w : World) (hr0 : Kd.C k64 w A0 l0.length l0) (hc0 : l0.length ≤ c0) (h : impl_indexOf.f k l0 a1 = some r) :
  Calls Try.prog 70 #[.slice A0 l0.length c0, .string a1] w fun e w' => e = .returned (.int .i64 r) ∧ Below w.heap.size w w':=by
 have HR0:=am_ hr0;have HC0:=am_ hc0;clear hr0 hc0;have HB:=am_ (Below.refl w.heap.size w);have H : ((slices_IndexFunc_impl_Container.f k l0 a1).bind fun t174 => (some t174)) = some r:=h;clear h;replace H:=Option.bind_eq_some_iff.mp H;obtain ⟨t174,A30,H⟩ := H;replace H : (some t174) = some r:=H;have A3:=am_ A30;clear A30;obtain rfl:=Option.some.inj H
 go_enter Try.func70,Try.ntmps70
 go_wp2_with (first | ((with_reducible refine gate_dst (N:=3) rfl ?_);refine box_event ?hg (N:=3) ?hd (cs:=#[.string a1]) (t:=9) ?hr ?_;(case hd => rfl);(case hg => rfl);(case hr => (go_simp;done));intro gb173 hg w4 hbox hb;have n0_:=am_ (below_step (by exact HB.out) hb);have n1_:=am_ hbox;have n2_:=am_ (ge_ hg (by exact HB.out));have n3_:=am_ (ge_ hg (by exact HB.out));clear HB;have HB:=n0_;have BK173:=n1_;have GW173:=n2_;have GE173:=n3_;clear n0_ n1_ n2_ n3_;clear hb hbox hg) | ((with_reducible refine gate_callee (f:=83) rfl ?_);refine goesL_ (some 7) rfl rfl Try.func83 (by kernel_rfl) rfl #[.slice A0 l0.length c0,(.func (.func 84) #[] #[.pointer (some ⟨gb173,0,none⟩)])] rfl (by (try simp only [List.map_toArray,List.map_cons,List.map_nil]);rfl) ?_;(with_reducible refine (slices_IndexFunc_impl_Container.calls (hg1_0:=?sg0) k _ _ l0 a1 t174 _ ?side1 ?side2 A3.out).mono ?_);(case sg0 => exact (blk_cell (by exact BK173.out) 0).trans rfl);(case side1 => repeat (exact (Kd.C_below HR0.out HB.out)));(case side2 => exact HC0.out);rintro e w5 ⟨rfl,hb⟩;refine ⟨_,rfl, ?_⟩;have n0_:=am_ (blk_below (by exact BK173.out) hb);have n1_:=am_ (below_step (by exact HB.out) hb);clear BK173;clear HB;have BK173:=n0_;have HB:=n1_;clear n0_ n1_;(try clear hb)))
 go_ret
 exact ⟨by rfl,by exact HB.out⟩

/-! ### impl_IsValidContainers: function 36 -/
def impl_IsValidContainers.l0 : Nat → List (S64) → List (S64) → Int → Int → Option (Bool)
 | 0,_,_,_,_ => none
 | k + 1,x0,x5,x6,x7 => if x7 < x6 then (if 0 ≤ x7 then (if x7 < (x5.length : Int) then ((impl_IsValidContainer.f k ((rd_T64 x5 x7).f0) ((rd_T64 x5 x7).f1) ((rd_T64 x5 x7).f2) ((rd_T64 x5 x7).f3) ((rd_T64 x5 x7).f4)).bind fun t177 => (if t177 = true then (if x7 ≤ (x0.length : Int) then ((impl_indexOf.f k (x0.take (x7 : Int).toNat) ((rd_T64 x5 x7).f0)).bind fun t182 => (if t182 ≥ 0 then (some false) else (impl_IsValidContainers.l0 k x0 x5 x6 (wrap64 (x7 + 1))))) else (none)) else (some false))) else (none)) else (none)) else (some (decide ((x0.length : Int) ≤ 12)))
def impl_IsValidContainers.f (k : Nat) (l0 : List (S64)) : Option (Bool):=impl_IsValidContainers.l0 k l0 l0 (l0.length : Int) 0
theorem impl_IsValidContainers.mono_l : ∀ k,(∀ y0 y1 y2 y3,LeO (impl_IsValidContainers.l0 k y0 y1 y2 y3) (impl_IsValidContainers.l0 (k + 1) y0 y1 y2 y3))
 | 0 => fun _ _ _ _ r h => by simp [impl_IsValidContainers.l0] at h
 | k + 1 => by
  have ih0:=impl_IsValidContainers.mono_l k
  ·intro y0 y1 y2 y3
   unfold impl_IsValidContainers.l0
   repeat' first
   | (with_reducible exact ih0 _ _ _ _)
   | (with_reducible exact impl_IsValidContainer.mono _ _ _ _ _ _)
   | (with_reducible exact impl_indexOf.mono _ _ _)
   | (with_reducible exact LeO.refl _)
   | (with_reducible exact LeO.none _)
   | (with_reducible refine LeO.ite ?_ ?_)
   | (with_reducible refine LeO.bind ?_ (fun _ => ?_))
   | exact ih0 _ _ _ _
   | exact impl_IsValidContainer.mono _ _ _ _ _ _
   | exact impl_indexOf.mono _ _ _
   | exact LeO.none _
   | refine LeO.ite ?_ ?_
   | refine LeO.bind ?_ (fun _ => ?_)
theorem impl_IsValidContainers.mono : ∀ a0 k,LeO (impl_IsValidContainers.f k a0) (impl_IsValidContainers.f (k + 1) a0):=by
 intro a0 k;have ih0:=impl_IsValidContainers.mono_l k
 unfold impl_IsValidContainers.f
 repeat' first
   | (with_reducible exact ih0 _ _ _ _)
   | (with_reducible exact impl_IsValidContainer.mono _ _ _ _ _ _)
   | (with_reducible exact impl_indexOf.mono _ _ _)
   | (with_reducible exact LeO.refl _)
   | (with_reducible exact LeO.none _)
   | (with_reducible refine LeO.ite ?_ ?_)
   | (with_reducible refine LeO.bind ?_ (fun _ => ?_))
   | exact ih0 _ _ _ _
   | exact impl_IsValidContainer.mono _ _ _ _ _ _
   | exact impl_indexOf.mono _ _ _
   | exact LeO.none _
   | refine LeO.ite ?_ ?_
   | refine LeO.bind ?_ (fun _ => ?_)
def impl_IsValidContainers.T4 : Bool × List (List Nat × List Nat):=(true,[([],[]),([0],[0]),([1],[1]),([2,1],[2]),([3],[3]),([3],[3]),([4,5,3],[3,4,5]),([3],[3]),([7,3],[3,7]),([6,8,3,3],[3,6,8]),([9,3],[3,9]),([3,10],[3,10])])
def impl_IsValidContainers.B4 : List Nat := [0,1,3,7,15,15,63,15,143,511,1023,2047]
theorem impl_IsValidContainers.tab4 : rtab .any (opsOf Try.f36 4) = impl_IsValidContainers.T4:=by kernel_rfl
theorem impl_IsValidContainers.bits4 : waitsOk impl_IsValidContainers.T4.2 impl_IsValidContainers.B4 = true:=by kernel_rfl
set_option maxHeartbeats 8000000 in
set_option maxRecDepth 100000 in
theorem impl_IsValidContainers.calls (k : Nat) (A0 : Option Addr) (c0 : Nat) (l0 : List (S64)) (r : Bool) (w : World) (hr0 : Kd.C k64 w A0 l0.length l0) (hc0 : l0.length ≤ c0) (h : impl_IsValidContainers.f k l0 = some r) :
  Calls Try.prog 36 #[.slice A0 l0.length c0] w fun e w' => e = .returned (.bool r) ∧ Below w.heap.size w w':=by
 have hu64:=Try.underlying64;have HR0:=am_ hr0;have HC0:=am_ hc0;clear hr0 hc0;have HB:=am_ (Below.refl w.heap.size w);have H : (impl_IsValidContainers.l0 k l0 l0 (l0.length : Int) 0) = some r:=h;clear h;have H':=am_ H;clear H
 go_enter Try.func36,Try.ntmps36
 go_wp2
 go_loopg [7] k (fun kq v7 w' => ∃ (x7_1 : Int),v7 = .int .i64 x7_1 ∧ Aside0 (impl_IsValidContainers.l0 kq l0 l0 (l0.length : Int) x7_1 = some r) ∧ Aside0 (kq ≤ k) ∧ Aside0 (Below w.heap.size w w'))
 case atStart => exact ⟨(0),(by rfl),H',⟨Nat.le_refl _⟩,⟨by exact HB.out⟩⟩
 case round =>
  clear H';obtain ⟨x7_1,rfl,HA,HK1,HB⟩ := hrel
  cases gk with
  | zero => exact absurd HA.out (by simp [impl_IsValidContainers.l0])
  | succ k1 =>
   have H:=HA.out;clear HA;simp only [impl_IsValidContainers.l0] at H
   by_cases c2 : x7_1 < (l0.length : Int)
   ·rw [if_pos c2] at H;have c2b0 : decide (x7_1 < (l0.length : Int)) = true:=decide_eq_true c2;clear c2
    by_cases c3 : 0 ≤ x7_1
    ·rw [if_pos c3] at H;have c3b0 : decide (0 ≤ x7_1) = true:=decide_eq_true c3;clear c3
     by_cases c4 : x7_1 < (l0.length : Int)
     ·rw [if_pos c4] at H;have c4b0 : decide (x7_1 < (l0.length : Int)) = true:=decide_eq_true c4;clear c4;replace H:=Option.bind_eq_some_iff.mp H;obtain ⟨t177,A50,H⟩ := H;replace H : (if t177 = true then (if x7_1 ≤ (l0.length : Int) then ((impl_indexOf.f k1 (l0.take (x7_1 : Int).toNat) ((rd_T64 l0 x7_1).f0)).bind fun t182 => (if t182 ≥ 0 then (some false) else (impl_IsValidContainers.l0 k1 l0 l0 (l0.length : Int) (wrap64 (x7_1 + 1))))) else (none)) else (some false)) = some r:=H;have A5:=am_ A50;clear A50
      by_cases c6 : t177 = true
      ·subst c6
       have H1 : (if x7_1 ≤ (l0.length : Int) then ((impl_indexOf.f k1 (l0.take (x7_1 : Int).toNat) ((rd_T64 l0 x7_1).f0)).bind fun t182 => (if t182 ≥ 0 then (some false) else (impl_IsValidContainers.l0 k1 l0 l0 (l0.length : Int) (wrap64 (x7_1 + 1))))) else (none)) = some r:=by rw [if_pos rfl] at H;exact H
       clear H;have H:=H1;clear H1;have c7b0:=eq_true (of_decide_eq_true (by (with_reducible assumption)) : 0 ≤ x7_1)
       by_cases c8 : x7_1 ≤ (l0.length : Int)
       ·rw [if_pos c8] at H;have c8b0:=eq_true c8;have c8b1 : decide (x7_1 ≤ (l0.length : Int)) = true:=decide_eq_true c8;clear c8;obtain ⟨y178,hy178⟩ : ∃ y_ : List (S64),y_ = (l0.take (x7_1 : Int).toNat):=⟨_,rfl⟩
        replace H : ((impl_indexOf.f k1 y178 ((rd_T64 l0 x7_1).f0)).bind fun t182 => (if t182 ≥ 0 then (some false) else (impl_IsValidContainers.l0 k1 l0 l0 (l0.length : Int) (wrap64 (x7_1 + 1))))) = some r:=by (rw [hy178];with_reducible exact H)
        have Ny178:=am_ hy178;clear hy178;replace H:=Option.bind_eq_some_iff.mp H;obtain ⟨t182,A90,H⟩ := H;replace H : (if t182 ≥ 0 then (some false) else (impl_IsValidContainers.l0 k1 l0 l0 (l0.length : Int) (wrap64 (x7_1 + 1)))) = some r:=H;have A9:=am_ A90;clear A90
        by_cases c10 : t182 ≥ 0
        ·rw [if_pos c10] at H;have c10b0 : decide (0 ≤ t182) = true:=decide_eq_true c10;clear c10;obtain rfl:=Option.some.inj H;have p175 : 0 ≤ (x7_1 : Int):=of_decide_eq_true (by (with_reducible assumption));have q175 : x7_1 < (l0.length : Int):=of_decide_eq_true (by (with_reducible assumption));obtain ⟨ad175,e175,hx175_0,hx175_1,hx175_2,hx175_3,hx175_4⟩ := at_T64 HR0.out x7_1 p175 q175;cases e175;replace hx175_0:=(HB.out.cell (World.block_lt_of_cell? w _ hx175_0)).trans hx175_0;replace hx175_1:=(HB.out.cell (World.block_lt_of_cell? w _ hx175_1)).trans hx175_1;replace hx175_2:=(HB.out.cell (World.block_lt_of_cell? w _ hx175_2)).trans hx175_2;replace hx175_3:=(HB.out.cell (World.block_lt_of_cell? w _ hx175_3)).trans hx175_3;replace hx175_4:=(HB.out.cell (World.block_lt_of_cell? w _ hx175_4)).trans hx175_4;replace p175:=eq_true p175;replace q175:=eq_true q175
         try go_wp2_with (((with_reducible refine gate_dst (N:=4) rfl ?_);refine box_event ?hg (N:=4) ?hd (cs:=#[.string (⟨#[]⟩ : ByteArray), .int .i64 0, .int .i64 0, .int .i64 0, .int .i64 0]) (t:=64) ?hr ?_;(case hd => rfl);(case hg => rfl);(case hr => (go_simp;done));intro gb176 hg w11 hbox hb;have n0_:=am_ (below_step (by exact HB.out) hb);have n1_:=am_ hbox;have n2_:=am_ (ge_ hg (by exact HB.out));have n3_:=am_ (ge_ hg (by exact HB.out));clear HB;have HB:=n0_;have BK176:=n1_;have GW176:=n2_;have GE176:=n3_;clear n0_ n1_ n2_ n3_;clear hb hbox hg;have hcz12_0 : w11.cell? ⟨gb176,0,none⟩ = some (.string (⟨#[]⟩ : ByteArray)):=(blk_cell BK176.out 0).trans rfl;have hcz12_1 : w11.cell? ⟨gb176,1,none⟩ = some (.int .i64 0):=(blk_cell BK176.out 1).trans rfl;have hcz12_2 : w11.cell? ⟨gb176,2,none⟩ = some (.int .i64 0):=(blk_cell BK176.out 2).trans rfl;have hcz12_3 : w11.cell? ⟨gb176,3,none⟩ = some (.int .i64 0):=(blk_cell BK176.out 3).trans rfl;have hcz12_4 : w11.cell? ⟨gb176,4,none⟩ = some (.int .i64 0):=(blk_cell BK176.out 4).trans rfl;have hfz12_0:=blk_frozen BK176.out 0;have hfz12_1:=blk_frozen BK176.out 1;have hfz12_2:=blk_frozen BK176.out 2;have hfz12_3:=blk_frozen BK176.out 3;have hfz12_4:=blk_frozen BK176.out 4))
         have n0_ : Aside0 ((((((w11.setCell ⟨gb176,0,none⟩ (.string ((rd_T64 l0 x7_1).f0))).setCell ⟨gb176,1,none⟩ (.int .i64 ((rd_T64 l0 x7_1).f1))).setCell ⟨gb176,2,none⟩ (.int .i64 ((rd_T64 l0 x7_1).f2))).setCell ⟨gb176,3,none⟩ (.int .i64 ((rd_T64 l0 x7_1).f3))).setCell ⟨gb176,4,none⟩ (.int .i64 ((rd_T64 l0 x7_1).f4))).heap[gb176]? = some (.cells #[.string ((rd_T64 l0 x7_1).f0), .int .i64 ((rd_T64 l0 x7_1).f1), .int .i64 ((rd_T64 l0 x7_1).f2), .int .i64 ((rd_T64 l0 x7_1).f3), .int .i64 ((rd_T64 l0 x7_1).f4)] 64 (0,0))):=⟨by refine blk_put (cs:=#[.string ((rd_T64 l0 x7_1).f0), .int .i64 ((rd_T64 l0 x7_1).f1), .int .i64 ((rd_T64 l0 x7_1).f2), .int .i64 ((rd_T64 l0 x7_1).f3), .int .i64 0]) ?_ 4 _ rfl;refine blk_put (cs:=#[.string ((rd_T64 l0 x7_1).f0), .int .i64 ((rd_T64 l0 x7_1).f1), .int .i64 ((rd_T64 l0 x7_1).f2), .int .i64 0, .int .i64 0]) ?_ 3 _ rfl;refine blk_put (cs:=#[.string ((rd_T64 l0 x7_1).f0), .int .i64 ((rd_T64 l0 x7_1).f1), .int .i64 0, .int .i64 0, .int .i64 0]) ?_ 2 _ rfl;refine blk_put (cs:=#[.string ((rd_T64 l0 x7_1).f0), .int .i64 0, .int .i64 0, .int .i64 0, .int .i64 0]) ?_ 1 _ rfl;refine blk_put (cs:=#[.string (⟨#[]⟩ : ByteArray), .int .i64 0, .int .i64 0, .int .i64 0, .int .i64 0]) ?_ 0 _ rfl;exact BK176.out⟩;have n1_ : Aside0 (Below w.heap.size w (((((w11.setCell ⟨gb176,0,none⟩ (.string ((rd_T64 l0 x7_1).f0))).setCell ⟨gb176,1,none⟩ (.int .i64 ((rd_T64 l0 x7_1).f1))).setCell ⟨gb176,2,none⟩ (.int .i64 ((rd_T64 l0 x7_1).f2))).setCell ⟨gb176,3,none⟩ (.int .i64 ((rd_T64 l0 x7_1).f3))).setCell ⟨gb176,4,none⟩ (.int .i64 ((rd_T64 l0 x7_1).f4)))):=⟨by repeat ((with_reducible first | exact HB.out | refine below_set ?_ GE176.out))⟩;(try clear BK176);(try clear HB);generalize (((((w11.setCell ⟨gb176,0,none⟩ (.string ((rd_T64 l0 x7_1).f0))).setCell ⟨gb176,1,none⟩ (.int .i64 ((rd_T64 l0 x7_1).f1))).setCell ⟨gb176,2,none⟩ (.int .i64 ((rd_T64 l0 x7_1).f2))).setCell ⟨gb176,3,none⟩ (.int .i64 ((rd_T64 l0 x7_1).f3))).setCell ⟨gb176,4,none⟩ (.int .i64 ((rd_T64 l0 x7_1).f4))) = w13 at n0_ n1_ ⊢;have BK176:=n0_;have HB:=n1_;clear n0_ n1_;have n0_:=am_ (blk_drew BK176.out);have n1_:=am_ (below_drew1 HB.out);clear BK176;clear HB;have BK176:=n0_;have HB:=n1_;clear n0_ n1_
         refine start_ (n:=12) (S:=fun w' => w'.cell? ⟨gb176,0,none⟩ = some (.string ((rd_T64 l0 x7_1).f0)) ∧ w'.cell? ⟨gb176,1,none⟩ = some (.int .i64 ((rd_T64 l0 x7_1).f1)) ∧ w'.cell? ⟨gb176,2,none⟩ = some (.int .i64 ((rd_T64 l0 x7_1).f2)) ∧ w'.cell? ⟨gb176,3,none⟩ = some (.int .i64 ((rd_T64 l0 x7_1).f3)) ∧ w'.cell? ⟨gb176,4,none⟩ = some (.int .i64 ((rd_T64 l0 x7_1).f4))) (ds := []) #[false,false,false,false,false,false,false,false,false,false,false,false] (by kernel_rfl) rfl rfl ⟨(blk_cell BK176.out 0).trans rfl,(blk_cell BK176.out 1).trans rfl,(blk_cell BK176.out 2).trans rfl,(blk_cell BK176.out 3).trans rfl,(blk_cell BK176.out 4).trans rfl⟩ (fun hHeld => ?_);refine with_tabW impl_IsValidContainers.tab4 impl_IsValidContainers.bits4 (fun HT_ HW_ => ?_)
         generalize w13.drew = w14 at BK176 HB hHeld ⊢;refine take_ (i:=0) (N:=some 12) (v:=?_) (a':=?_) #[true,false,false,false,false,false,false,false,false,false,false,false] rfl rfl (take_ofW HT_.out HW_.out (by kernel_rfl)) (fun _ _ _ h => h) (Or.inl ⟨by rfl, ?_⟩) hHeld ?_ ?_
         rotate_left
         ·rintro w' ⟨s0,s1,s2,s3,s4⟩
          go_simp
          with_reducible rfl
         rotate_left
         ·simp only [Act.put,sA_,s0_,s1_,i64_w,i32_w]
          rfl
         refine one_ (i:=1) (N:=some 13) #[true,true,false,false,false,false,false,false,false,false,false,false] rfl rfl (one_of HT_.out (by kernel_rfl)) (by decide) (fun K hK => ?_);refine goes_ Try.func69 (by kernel_rfl) rfl #[.agg #[.string ((rd_T64 l0 x7_1).f0), .int .i64 ((rd_T64 l0 x7_1).f1), .int .i64 ((rd_T64 l0 x7_1).f2), .int .i64 ((rd_T64 l0 x7_1).f3), .int .i64 ((rd_T64 l0 x7_1).f4)]] (by rfl) rfl rfl (by (try simp only [List.map_toArray,List.map_cons,List.map_nil]);rfl) ?_
         with_reducible refine (impl_IsValidContainer.calls k1 ((rd_T64 l0 x7_1).f0) ((rd_T64 l0 x7_1).f1) ((rd_T64 l0 x7_1).f2) ((rd_T64 l0 x7_1).f3) ((rd_T64 l0 x7_1).f4) true _ A5.out).mono ?_
         rintro e w15 ⟨rfl,hb⟩;refine ⟨_,rfl, ?_⟩;have n0_:=am_ (blk_below (by exact BK176.out) hb);have n1_:=am_ (below_step (by exact HB.out) hb);clear BK176;clear HB;have BK176:=n0_;have HB:=n1_;clear n0_ n1_;(try clear hb)
         (skip)
         (skip)
         (skip)
         have q16 : (x7_1 : Int) ≤ ((l0.length : Int) : Int):=of_decide_eq_true (by (with_reducible assumption));obtain ⟨i016,hi016,_,hsz16,_⟩ := info_parts info64;have hroom16 : l0.length ≤ c0:=HC0.out;have hC16 : Kd.C k64 _ (some ad175) l0.length l0:=HR0.out;have hcut16:=cut_to (P:=Try.prog) 30 64 .i64 Try.underlying30 hi016 (some ad175) l0.length c0 x7_1 (of_decide_eq_true (by (with_reducible assumption))) q16 hroom16;have hr16:=Kd.C_take (m:=(x7_1 : Int).toNat) hC16 (by omega);have hy16 : y178.length = (x7_1 : Int).toNat:=(by rw [Ny178.out,List.length_take];omega);rw [← Ny178.out] at hr16;rw [← hy16] at hcut16;have HR181:=am_ hr16;have HC181:=am_ (show y178.length ≤ c0 from by omega);clear hr16 hC16 hroom16 hi016 hsz16;have KY16:=am_ hy16;clear hy16;replace q16:=eq_true q16;refine hK.out _ _ ⟨(blk_cell BK176.out 0).trans rfl,(blk_cell BK176.out 1).trans rfl,(blk_cell BK176.out 2).trans rfl,(blk_cell BK176.out 3).trans rfl,(blk_cell BK176.out 4).trans rfl⟩ (fun hHeld => ?_);clear hK K;refine norm_ (a':=?_) ?_ ?_
         rotate_left
         ·show Act.put _ (some 13) _ = _
          simp only [Act.put,sA_,s0_,s1_,i64_w,i32_w]
          rfl
         refine pure_ (i:=2) (N:=some 14) (v:=?_) (a':=?_) #[true,true,true,false,false,false,false,false,false,false,false,false] rfl rfl (any_of HT_.out (by kernel_rfl)) (fun _ _ _ h => h) (Or.inl ⟨by rfl, ?_⟩) ?_ ?_
         rotate_left
         ·intro w'
          go_simp
          with_reducible rfl
         rotate_left
         ·simp only [Act.put,sA_,s0_,s1_,i64_w,i32_w]
          rfl
         refine pure_ (i:=3) (N:=some 15) (v:=?_) (a':=?_) #[true,true,true,true,false,false,false,false,false,false,false,false] rfl rfl (any_of HT_.out (by kernel_rfl)) (fun _ _ _ h => h) (Or.inl ⟨by rfl, ?_⟩) ?_ ?_
         rotate_left
         ·intro w'
          go_simp
          with_reducible rfl
         rotate_left
         ·simp only [Act.put,sA_,s0_,s1_,i64_w,i32_w]
          rfl
         refine pure_ (i:=4) (N:=some 16) (v:=?_) (a':=?_) #[true,true,true,true,true,false,false,false,false,false,false,false] rfl rfl (any_of HT_.out (by kernel_rfl)) (fun _ _ _ h => h) (Or.inl ⟨by rfl, ?_⟩) ?_ ?_
         rotate_left
         ·intro w'
          go_simp
          with_reducible rfl
         rotate_left
         ·simp only [Act.put,sA_,s0_,s1_,i64_w,i32_w]
          rfl
         refine pure_ (i:=5) (N:=some 17) (v:=?_) (a':=?_) #[true,true,true,true,true,true,false,false,false,false,false,false] rfl rfl (any_of HT_.out (by kernel_rfl)) (fun _ _ _ h => h) (Or.inl ⟨by rfl, ?_⟩) ?_ ?_
         rotate_left
         ·intro w'
          go_simp
          with_reducible rfl
         rotate_left
         ·simp only [Act.put,sA_,s0_,s1_,i64_w,i32_w]
          rfl
         refine pure_ (i:=6) (N:=some 18) (v:=?_) (a':=?_) #[true,true,true,true,true,true,true,false,false,false,false,false] rfl rfl (any_of HT_.out (by kernel_rfl)) (fun _ _ _ h => h) (Or.inl ⟨by rfl, ?_⟩) ?_ ?_
         rotate_left
         ·intro w'
          go_simp
          with_reducible rfl
         rotate_left
         ·simp only [Act.put,sA_,s0_,s1_,i64_w,i32_w]
          rfl
         refine pure_ (i:=7) (N:=some 19) (v:=?_) (a':=?_) #[true,true,true,true,true,true,true,true,false,false,false,false] rfl rfl (any_of HT_.out (by kernel_rfl)) (fun _ _ _ h => h) (Or.inl ⟨by rfl, ?_⟩) ?_ ?_
         rotate_left
         ·intro w'
          go_simp
          with_reducible rfl
         rotate_left
         ·simp only [Act.put,sA_,s0_,s1_,i64_w,i32_w]
          rfl
         refine take_ (i:=8) (N:=some 20) (v:=?_) (a':=?_) #[true,true,true,true,true,true,true,true,true,false,false,false] rfl rfl (take_ofW HT_.out HW_.out (by kernel_rfl)) (fun _ _ _ h => h) (Or.inl ⟨by rfl, ?_⟩) hHeld ?_ ?_
         rotate_left
         ·rintro w' ⟨s0,s1,s2,s3,s4⟩
          go_simp
          with_reducible rfl
         rotate_left
         ·simp only [Act.put,sA_,s0_,s1_,i64_w,i32_w]
          rfl
         refine one_ (i:=9) (N:=some 21) #[true,true,true,true,true,true,true,true,true,true,false,false] rfl rfl (one_of HT_.out (by kernel_rfl)) (by decide) (fun K hK => ?_);refine goes_ Try.func70 (by kernel_rfl) rfl #[.slice (some ad175) y178.length c0, .string ((rd_T64 l0 x7_1).f0)] (by rfl) rfl rfl (by (try simp only [List.map_toArray,List.map_cons,List.map_nil]);rfl) ?_
         with_reducible refine (impl_indexOf.calls k1 _ _ y178 ((rd_T64 l0 x7_1).f0) t182 _ ?side1 ?side2 A9.out).mono ?_
         (case side1 => repeat (exact (Kd.C_below HR181.out HB.out)))
         (case side2 => exact HC181.out)
         rintro e w17 ⟨rfl,hb⟩;refine ⟨_,rfl, ?_⟩;have n0_:=am_ (blk_below (by exact BK176.out) hb);have n1_:=am_ (below_step (by exact HB.out) hb);clear BK176;clear HB;have BK176:=n0_;have HB:=n1_;clear n0_ n1_;(try clear hb)
         (skip)
         (skip)
         (skip)
         refine hK.out _ _ ⟨(blk_cell BK176.out 0).trans rfl,(blk_cell BK176.out 1).trans rfl,(blk_cell BK176.out 2).trans rfl,(blk_cell BK176.out 3).trans rfl,(blk_cell BK176.out 4).trans rfl⟩ (fun hHeld => ?_);clear hK K;refine norm_ (a':=?_) ?_ ?_
         rotate_left
         ·show Act.put _ (some 21) _ = _
          simp only [Act.put,sA_,s0_,s1_,i64_w,i32_w]
          rfl
         refine pure_ (i:=10) (N:=some 22) (v:=?_) (a':=?_) #[true,true,true,true,true,true,true,true,true,true,true,false] rfl rfl (any_of HT_.out (by kernel_rfl)) (fun _ _ _ h => h) (Or.inl ⟨by rfl, ?_⟩) ?_ ?_
         rotate_left
         ·intro w'
          go_simp
          with_reducible rfl
         rotate_left
         ·simp only [Act.put,sA_,s0_,s1_,i64_w,i32_w]
          rfl
         refine pure_ (i:=11) (N:=some 23) (v:=?_) (a':=?_) #[true,true,true,true,true,true,true,true,true,true,true,true] rfl rfl (any_of HT_.out (by kernel_rfl)) (fun _ _ _ h => h) (Or.inl ⟨by rfl, ?_⟩) ?_ ?_
         rotate_left
         ·intro w'
          go_simp
          with_reducible rfl
         rotate_left
         ·simp only [Act.put,sA_,s0_,s1_,i64_w,i32_w]
          rfl
         refine done_ (done_of HT_.out (by kernel_rfl)) ?_
         try go_wp2
         go_ret
         exact ⟨by rfl,by exact HB.out⟩
        ·rw [if_neg c10] at H;have c10b0 : decide (0 ≤ t182) = false:=decide_eq_false c10;clear c10;have H':=am_ H;clear H;have p175 : 0 ≤ (x7_1 : Int):=of_decide_eq_true (by (with_reducible assumption));have q175 : x7_1 < (l0.length : Int):=of_decide_eq_true (by (with_reducible assumption));obtain ⟨ad175,e175,hx175_0,hx175_1,hx175_2,hx175_3,hx175_4⟩ := at_T64 HR0.out x7_1 p175 q175;cases e175;replace hx175_0:=(HB.out.cell (World.block_lt_of_cell? w _ hx175_0)).trans hx175_0;replace hx175_1:=(HB.out.cell (World.block_lt_of_cell? w _ hx175_1)).trans hx175_1;replace hx175_2:=(HB.out.cell (World.block_lt_of_cell? w _ hx175_2)).trans hx175_2;replace hx175_3:=(HB.out.cell (World.block_lt_of_cell? w _ hx175_3)).trans hx175_3;replace hx175_4:=(HB.out.cell (World.block_lt_of_cell? w _ hx175_4)).trans hx175_4;replace p175:=eq_true p175;replace q175:=eq_true q175
         try go_wp2_with (((with_reducible refine gate_dst (N:=4) rfl ?_);refine box_event ?hg (N:=4) ?hd (cs:=#[.string (⟨#[]⟩ : ByteArray), .int .i64 0, .int .i64 0, .int .i64 0, .int .i64 0]) (t:=64) ?hr ?_;(case hd => rfl);(case hg => rfl);(case hr => (go_simp;done));intro gb176 hg w18 hbox hb;have n0_:=am_ (below_step (by exact HB.out) hb);have n1_:=am_ hbox;have n2_:=am_ (ge_ hg (by exact HB.out));have n3_:=am_ (ge_ hg (by exact HB.out));clear HB;have HB:=n0_;have BK176:=n1_;have GW176:=n2_;have GE176:=n3_;clear n0_ n1_ n2_ n3_;clear hb hbox hg;have hcz19_0 : w18.cell? ⟨gb176,0,none⟩ = some (.string (⟨#[]⟩ : ByteArray)):=(blk_cell BK176.out 0).trans rfl;have hcz19_1 : w18.cell? ⟨gb176,1,none⟩ = some (.int .i64 0):=(blk_cell BK176.out 1).trans rfl;have hcz19_2 : w18.cell? ⟨gb176,2,none⟩ = some (.int .i64 0):=(blk_cell BK176.out 2).trans rfl;have hcz19_3 : w18.cell? ⟨gb176,3,none⟩ = some (.int .i64 0):=(blk_cell BK176.out 3).trans rfl;have hcz19_4 : w18.cell? ⟨gb176,4,none⟩ = some (.int .i64 0):=(blk_cell BK176.out 4).trans rfl;have hfz19_0:=blk_frozen BK176.out 0;have hfz19_1:=blk_frozen BK176.out 1;have hfz19_2:=blk_frozen BK176.out 2;have hfz19_3:=blk_frozen BK176.out 3;have hfz19_4:=blk_frozen BK176.out 4))
         have n0_ : Aside0 ((((((w18.setCell ⟨gb176,0,none⟩ (.string ((rd_T64 l0 x7_1).f0))).setCell ⟨gb176,1,none⟩ (.int .i64 ((rd_T64 l0 x7_1).f1))).setCell ⟨gb176,2,none⟩ (.int .i64 ((rd_T64 l0 x7_1).f2))).setCell ⟨gb176,3,none⟩ (.int .i64 ((rd_T64 l0 x7_1).f3))).setCell ⟨gb176,4,none⟩ (.int .i64 ((rd_T64 l0 x7_1).f4))).heap[gb176]? = some (.cells #[.string ((rd_T64 l0 x7_1).f0), .int .i64 ((rd_T64 l0 x7_1).f1), .int .i64 ((rd_T64 l0 x7_1).f2), .int .i64 ((rd_T64 l0 x7_1).f3), .int .i64 ((rd_T64 l0 x7_1).f4)] 64 (0,0))):=⟨by refine blk_put (cs:=#[.string ((rd_T64 l0 x7_1).f0), .int .i64 ((rd_T64 l0 x7_1).f1), .int .i64 ((rd_T64 l0 x7_1).f2), .int .i64 ((rd_T64 l0 x7_1).f3), .int .i64 0]) ?_ 4 _ rfl;refine blk_put (cs:=#[.string ((rd_T64 l0 x7_1).f0), .int .i64 ((rd_T64 l0 x7_1).f1), .int .i64 ((rd_T64 l0 x7_1).f2), .int .i64 0, .int .i64 0]) ?_ 3 _ rfl;refine blk_put (cs:=#[.string ((rd_T64 l0 x7_1).f0), .int .i64 ((rd_T64 l0 x7_1).f1), .int .i64 0, .int .i64 0, .int .i64 0]) ?_ 2 _ rfl;refine blk_put (cs:=#[.string ((rd_T64 l0 x7_1).f0), .int .i64 0, .int .i64 0, .int .i64 0, .int .i64 0]) ?_ 1 _ rfl;refine blk_put (cs:=#[.string (⟨#[]⟩ : ByteArray), .int .i64 0, .int .i64 0, .int .i64 0, .int .i64 0]) ?_ 0 _ rfl;exact BK176.out⟩;have n1_ : Aside0 (Below w.heap.size w (((((w18.setCell ⟨gb176,0,none⟩ (.string ((rd_T64 l0 x7_1).f0))).setCell ⟨gb176,1,none⟩ (.int .i64 ((rd_T64 l0 x7_1).f1))).setCell ⟨gb176,2,none⟩ (.int .i64 ((rd_T64 l0 x7_1).f2))).setCell ⟨gb176,3,none⟩ (.int .i64 ((rd_T64 l0 x7_1).f3))).setCell ⟨gb176,4,none⟩ (.int .i64 ((rd_T64 l0 x7_1).f4)))):=⟨by repeat ((with_reducible first | exact HB.out | refine below_set ?_ GE176.out))⟩;(try clear BK176);(try clear HB);generalize (((((w18.setCell ⟨gb176,0,none⟩ (.string ((rd_T64 l0 x7_1).f0))).setCell ⟨gb176,1,none⟩ (.int .i64 ((rd_T64 l0 x7_1).f1))).setCell ⟨gb176,2,none⟩ (.int .i64 ((rd_T64 l0 x7_1).f2))).setCell ⟨gb176,3,none⟩ (.int .i64 ((rd_T64 l0 x7_1).f3))).setCell ⟨gb176,4,none⟩ (.int .i64 ((rd_T64 l0 x7_1).f4))) = w20 at n0_ n1_ ⊢;have BK176:=n0_;have HB:=n1_;clear n0_ n1_;have n0_:=am_ (blk_drew BK176.out);have n1_:=am_ (below_drew1 HB.out);clear BK176;clear HB;have BK176:=n0_;have HB:=n1_;clear n0_ n1_
         refine start_ (n:=12) (S:=fun w' => w'.cell? ⟨gb176,0,none⟩ = some (.string ((rd_T64 l0 x7_1).f0)) ∧ w'.cell? ⟨gb176,1,none⟩ = some (.int .i64 ((rd_T64 l0 x7_1).f1)) ∧ w'.cell? ⟨gb176,2,none⟩ = some (.int .i64 ((rd_T64 l0 x7_1).f2)) ∧ w'.cell? ⟨gb176,3,none⟩ = some (.int .i64 ((rd_T64 l0 x7_1).f3)) ∧ w'.cell? ⟨gb176,4,none⟩ = some (.int .i64 ((rd_T64 l0 x7_1).f4))) (ds := []) #[false,false,false,false,false,false,false,false,false,false,false,false] (by kernel_rfl) rfl rfl ⟨(blk_cell BK176.out 0).trans rfl,(blk_cell BK176.out 1).trans rfl,(blk_cell BK176.out 2).trans rfl,(blk_cell BK176.out 3).trans rfl,(blk_cell BK176.out 4).trans rfl⟩ (fun hHeld => ?_);refine with_tabW impl_IsValidContainers.tab4 impl_IsValidContainers.bits4 (fun HT_ HW_ => ?_)
         generalize w20.drew = w21 at BK176 HB hHeld ⊢;refine take_ (i:=0) (N:=some 12) (v:=?_) (a':=?_) #[true,false,false,false,false,false,false,false,false,false,false,false] rfl rfl (take_ofW HT_.out HW_.out (by kernel_rfl)) (fun _ _ _ h => h) (Or.inl ⟨by rfl, ?_⟩) hHeld ?_ ?_
         rotate_left
         ·rintro w' ⟨s0,s1,s2,s3,s4⟩
          go_simp
          with_reducible rfl
         rotate_left
         ·simp only [Act.put,sA_,s0_,s1_,i64_w,i32_w]
          rfl
         refine one_ (i:=1) (N:=some 13) #[true,true,false,false,false,false,false,false,false,false,false,false] rfl rfl (one_of HT_.out (by kernel_rfl)) (by decide) (fun K hK => ?_);refine goes_ Try.func69 (by kernel_rfl) rfl #[.agg #[.string ((rd_T64 l0 x7_1).f0), .int .i64 ((rd_T64 l0 x7_1).f1), .int .i64 ((rd_T64 l0 x7_1).f2), .int .i64 ((rd_T64 l0 x7_1).f3), .int .i64 ((rd_T64 l0 x7_1).f4)]] (by rfl) rfl rfl (by (try simp only [List.map_toArray,List.map_cons,List.map_nil]);rfl) ?_
         with_reducible refine (impl_IsValidContainer.calls k1 ((rd_T64 l0 x7_1).f0) ((rd_T64 l0 x7_1).f1) ((rd_T64 l0 x7_1).f2) ((rd_T64 l0 x7_1).f3) ((rd_T64 l0 x7_1).f4) true _ A5.out).mono ?_
         rintro e w22 ⟨rfl,hb⟩;refine ⟨_,rfl, ?_⟩;have n0_:=am_ (blk_below (by exact BK176.out) hb);have n1_:=am_ (below_step (by exact HB.out) hb);clear BK176;clear HB;have BK176:=n0_;have HB:=n1_;clear n0_ n1_;(try clear hb)
         (skip)
         (skip)
         (skip)
         have q23 : (x7_1 : Int) ≤ ((l0.length : Int) : Int):=of_decide_eq_true (by (with_reducible assumption));obtain ⟨i023,hi023,_,hsz23,_⟩ := info_parts info64;have hroom23 : l0.length ≤ c0:=HC0.out;have hC23 : Kd.C k64 _ (some ad175) l0.length l0:=HR0.out;have hcut23:=cut_to (P:=Try.prog) 30 64 .i64 Try.underlying30 hi023 (some ad175) l0.length c0 x7_1 (of_decide_eq_true (by (with_reducible assumption))) q23 hroom23;have hr23:=Kd.C_take (m:=(x7_1 : Int).toNat) hC23 (by omega);have hy23 : y178.length = (x7_1 : Int).toNat:=(by rw [Ny178.out,List.length_take];omega);rw [← Ny178.out] at hr23;rw [← hy23] at hcut23;have HR181:=am_ hr23;have HC181:=am_ (show y178.length ≤ c0 from by omega);clear hr23 hC23 hroom23 hi023 hsz23;have KY23:=am_ hy23;clear hy23;replace q23:=eq_true q23;refine hK.out _ _ ⟨(blk_cell BK176.out 0).trans rfl,(blk_cell BK176.out 1).trans rfl,(blk_cell BK176.out 2).trans rfl,(blk_cell BK176.out 3).trans rfl,(blk_cell BK176.out 4).trans rfl⟩ (fun hHeld => ?_);clear hK K;refine norm_ (a':=?_) ?_ ?_
         rotate_left
         ·show Act.put _ (some 13) _ = _
          simp only [Act.put,sA_,s0_,s1_,i64_w,i32_w]
          rfl
         refine pure_ (i:=2) (N:=some 14) (v:=?_) (a':=?_) #[true,true,true,false,false,false,false,false,false,false,false,false] rfl rfl (any_of HT_.out (by kernel_rfl)) (fun _ _ _ h => h) (Or.inl ⟨by rfl, ?_⟩) ?_ ?_
         rotate_left
         ·intro w'
          go_simp
          with_reducible rfl
         rotate_left
         ·simp only [Act.put,sA_,s0_,s1_,i64_w,i32_w]
          rfl
         refine pure_ (i:=3) (N:=some 15) (v:=?_) (a':=?_) #[true,true,true,true,false,false,false,false,false,false,false,false] rfl rfl (any_of HT_.out (by kernel_rfl)) (fun _ _ _ h => h) (Or.inl ⟨by rfl, ?_⟩) ?_ ?_
         rotate_left
         ·intro w'
          go_simp
          with_reducible rfl
         rotate_left
         ·simp only [Act.put,sA_,s0_,s1_,i64_w,i32_w]
          rfl
         refine pure_ (i:=4) (N:=some 16) (v:=?_) (a':=?_) #[true,true,true,true,true,false,false,false,false,false,false,false] rfl rfl (any_of HT_.out (by kernel_rfl)) (fun _ _ _ h => h) (Or.inl ⟨by rfl, ?_⟩) ?_ ?_
         rotate_left
         ·intro w'
          go_simp
          with_reducible rfl
         rotate_left
         ·simp only [Act.put,sA_,s0_,s1_,i64_w,i32_w]
          rfl
         refine pure_ (i:=5) (N:=some 17) (v:=?_) (a':=?_) #[true,true,true,true,true,true,false,false,false,false,false,false] rfl rfl (any_of HT_.out (by kernel_rfl)) (fun _ _ _ h => h) (Or.inl ⟨by rfl, ?_⟩) ?_ ?_
         rotate_left
         ·intro w'
          go_simp
          with_reducible rfl
         rotate_left
         ·simp only [Act.put,sA_,s0_,s1_,i64_w,i32_w]
          rfl
         refine pure_ (i:=6) (N:=some 18) (v:=?_) (a':=?_) #[true,true,true,true,true,true,true,false,false,false,false,false] rfl rfl (any_of HT_.out (by kernel_rfl)) (fun _ _ _ h => h) (Or.inl ⟨by rfl, ?_⟩) ?_ ?_
         rotate_left
         ·intro w'
          go_simp
          with_reducible rfl
         rotate_left
         ·simp only [Act.put,sA_,s0_,s1_,i64_w,i32_w]
          rfl
         refine pure_ (i:=7) (N:=some 19) (v:=?_) (a':=?_) #[true,true,true,true,true,true,true,true,false,false,false,false] rfl rfl (any_of HT_.out (by kernel_rfl)) (fun _ _ _ h => h) (Or.inl ⟨by rfl, ?_⟩) ?_ ?_
         rotate_left
         ·intro w'
          go_simp
          with_reducible rfl
         rotate_left
         ·simp only [Act.put,sA_,s0_,s1_,i64_w,i32_w]
          rfl
         refine take_ (i:=8) (N:=some 20) (v:=?_) (a':=?_) #[true,true,true,true,true,true,true,true,true,false,false,false] rfl rfl (take_ofW HT_.out HW_.out (by kernel_rfl)) (fun _ _ _ h => h) (Or.inl ⟨by rfl, ?_⟩) hHeld ?_ ?_
         rotate_left
         ·rintro w' ⟨s0,s1,s2,s3,s4⟩
          go_simp
          with_reducible rfl
         rotate_left
         ·simp only [Act.put,sA_,s0_,s1_,i64_w,i32_w]
          rfl
         refine one_ (i:=9) (N:=some 21) #[true,true,true,true,true,true,true,true,true,true,false,false] rfl rfl (one_of HT_.out (by kernel_rfl)) (by decide) (fun K hK => ?_);refine goes_ Try.func70 (by kernel_rfl) rfl #[.slice (some ad175) y178.length c0, .string ((rd_T64 l0 x7_1).f0)] (by rfl) rfl rfl (by (try simp only [List.map_toArray,List.map_cons,List.map_nil]);rfl) ?_
         with_reducible refine (impl_indexOf.calls k1 _ _ y178 ((rd_T64 l0 x7_1).f0) t182 _ ?side1 ?side2 A9.out).mono ?_
         (case side1 => repeat (exact (Kd.C_below HR181.out HB.out)))
         (case side2 => exact HC181.out)
         rintro e w24 ⟨rfl,hb⟩;refine ⟨_,rfl, ?_⟩;have n0_:=am_ (blk_below (by exact BK176.out) hb);have n1_:=am_ (below_step (by exact HB.out) hb);clear BK176;clear HB;have BK176:=n0_;have HB:=n1_;clear n0_ n1_;(try clear hb)
         (skip)
         (skip)
         (skip)
         refine hK.out _ _ ⟨(blk_cell BK176.out 0).trans rfl,(blk_cell BK176.out 1).trans rfl,(blk_cell BK176.out 2).trans rfl,(blk_cell BK176.out 3).trans rfl,(blk_cell BK176.out 4).trans rfl⟩ (fun hHeld => ?_);clear hK K;refine norm_ (a':=?_) ?_ ?_
         rotate_left
         ·show Act.put _ (some 21) _ = _
          simp only [Act.put,sA_,s0_,s1_,i64_w,i32_w]
          rfl
         refine pure_ (i:=10) (N:=some 22) (v:=?_) (a':=?_) #[true,true,true,true,true,true,true,true,true,true,true,false] rfl rfl (any_of HT_.out (by kernel_rfl)) (fun _ _ _ h => h) (Or.inl ⟨by rfl, ?_⟩) ?_ ?_
         rotate_left
         ·intro w'
          go_simp
          with_reducible rfl
         rotate_left
         ·simp only [Act.put,sA_,s0_,s1_,i64_w,i32_w]
          rfl
         refine pure_ (i:=11) (N:=some 23) (v:=?_) (a':=?_) #[true,true,true,true,true,true,true,true,true,true,true,true] rfl rfl (any_of HT_.out (by kernel_rfl)) (fun _ _ _ h => h) (Or.inl ⟨by rfl, ?_⟩) ?_ ?_
         rotate_left
         ·intro w'
          go_simp
          with_reducible rfl
         rotate_left
         ·simp only [Act.put,sA_,s0_,s1_,i64_w,i32_w]
          rfl
         refine done_ (done_of HT_.out (by kernel_rfl)) ?_
         try go_wp2
         go_roundg k1
         case measure => have:=HK1.out;omega
         case rel => exact ⟨(wrap64 (x7_1 + 1)),(by rfl),H',⟨by have:=HK1.out;omega⟩,⟨by exact HB.out⟩⟩
       ·rw [if_neg c8] at H
        exact absurd H (by simp)
      ·replace c6:=Bool.eq_false_iff.mpr c6;subst c6
       have H1 : (some false) = some r:=by rw [if_neg (show ¬ (false = true) by decide)] at H;exact H
       clear H;have H:=H1;clear H1;obtain rfl:=Option.some.inj H;have p175 : 0 ≤ (x7_1 : Int):=of_decide_eq_true (by (with_reducible assumption));have q175 : x7_1 < (l0.length : Int):=of_decide_eq_true (by (with_reducible assumption));obtain ⟨ad175,e175,hx175_0,hx175_1,hx175_2,hx175_3,hx175_4⟩ := at_T64 HR0.out x7_1 p175 q175;cases e175;replace hx175_0:=(HB.out.cell (World.block_lt_of_cell? w _ hx175_0)).trans hx175_0;replace hx175_1:=(HB.out.cell (World.block_lt_of_cell? w _ hx175_1)).trans hx175_1;replace hx175_2:=(HB.out.cell (World.block_lt_of_cell? w _ hx175_2)).trans hx175_2;replace hx175_3:=(HB.out.cell (World.block_lt_of_cell? w _ hx175_3)).trans hx175_3;replace hx175_4:=(HB.out.cell (World.block_lt_of_cell? w _ hx175_4)).trans hx175_4;replace p175:=eq_true p175;replace q175:=eq_true q175
       try go_wp2_with (((with_reducible refine gate_dst (N:=4) rfl ?_);refine box_event ?hg (N:=4) ?hd (cs:=#[.string (⟨#[]⟩ : ByteArray), .int .i64 0, .int .i64 0, .int .i64 0, .int .i64 0]) (t:=64) ?hr ?_;(case hd => rfl);(case hg => rfl);(case hr => (go_simp;done));intro gb176 hg w25 hbox hb;have n0_:=am_ (below_step (by exact HB.out) hb);have n1_:=am_ hbox;have n2_:=am_ (ge_ hg (by exact HB.out));have n3_:=am_ (ge_ hg (by exact HB.out));clear HB;have HB:=n0_;have BK176:=n1_;have GW176:=n2_;have GE176:=n3_;clear n0_ n1_ n2_ n3_;clear hb hbox hg;have hcz26_0 : w25.cell? ⟨gb176,0,none⟩ = some (.string (⟨#[]⟩ : ByteArray)):=(blk_cell BK176.out 0).trans rfl;have hcz26_1 : w25.cell? ⟨gb176,1,none⟩ = some (.int .i64 0):=(blk_cell BK176.out 1).trans rfl;have hcz26_2 : w25.cell? ⟨gb176,2,none⟩ = some (.int .i64 0):=(blk_cell BK176.out 2).trans rfl;have hcz26_3 : w25.cell? ⟨gb176,3,none⟩ = some (.int .i64 0):=(blk_cell BK176.out 3).trans rfl;have hcz26_4 : w25.cell? ⟨gb176,4,none⟩ = some (.int .i64 0):=(blk_cell BK176.out 4).trans rfl;have hfz26_0:=blk_frozen BK176.out 0;have hfz26_1:=blk_frozen BK176.out 1;have hfz26_2:=blk_frozen BK176.out 2;have hfz26_3:=blk_frozen BK176.out 3;have hfz26_4:=blk_frozen BK176.out 4))
       have n0_ : Aside0 ((((((w25.setCell ⟨gb176,0,none⟩ (.string ((rd_T64 l0 x7_1).f0))).setCell ⟨gb176,1,none⟩ (.int .i64 ((rd_T64 l0 x7_1).f1))).setCell ⟨gb176,2,none⟩ (.int .i64 ((rd_T64 l0 x7_1).f2))).setCell ⟨gb176,3,none⟩ (.int .i64 ((rd_T64 l0 x7_1).f3))).setCell ⟨gb176,4,none⟩ (.int .i64 ((rd_T64 l0 x7_1).f4))).heap[gb176]? = some (.cells #[.string ((rd_T64 l0 x7_1).f0), .int .i64 ((rd_T64 l0 x7_1).f1), .int .i64 ((rd_T64 l0 x7_1).f2), .int .i64 ((rd_T64 l0 x7_1).f3), .int .i64 ((rd_T64 l0 x7_1).f4)] 64 (0,0))):=⟨by refine blk_put (cs:=#[.string ((rd_T64 l0 x7_1).f0), .int .i64 ((rd_T64 l0 x7_1).f1), .int .i64 ((rd_T64 l0 x7_1).f2), .int .i64 ((rd_T64 l0 x7_1).f3), .int .i64 0]) ?_ 4 _ rfl;refine blk_put (cs:=#[.string ((rd_T64 l0 x7_1).f0), .int .i64 ((rd_T64 l0 x7_1).f1), .int .i64 ((rd_T64 l0 x7_1).f2), .int .i64 0, .int .i64 0]) ?_ 3 _ rfl;refine blk_put (cs:=#[.string ((rd_T64 l0 x7_1).f0), .int .i64 ((rd_T64 l0 x7_1).f1), .int .i64 0, .int .i64 0, .int .i64 0]) ?_ 2 _ rfl;refine blk_put (cs:=#[.string ((rd_T64 l0 x7_1).f0), .int .i64 0, .int .i64 0, .int .i64 0, .int .i64 0]) ?_ 1 _ rfl;refine blk_put (cs:=#[.string (⟨#[]⟩ : ByteArray), .int .i64 0, .int .i64 0, .int .i64 0, .int .i64 0]) ?_ 0 _ rfl;exact BK176.out⟩;have n1_ : Aside0 (Below w.heap.size w (((((w25.setCell ⟨gb176,0,none⟩ (.string ((rd_T64 l0 x7_1).f0))).setCell ⟨gb176,1,none⟩ (.int .i64 ((rd_T64 l0 x7_1).f1))).setCell ⟨gb176,2,none⟩ (.int .i64 ((rd_T64 l0 x7_1).f2))).setCell ⟨gb176,3,none⟩ (.int .i64 ((rd_T64 l0 x7_1).f3))).setCell ⟨gb176,4,none⟩ (.int .i64 ((rd_T64 l0 x7_1).f4)))):=⟨by repeat ((with_reducible first | exact HB.out | refine below_set ?_ GE176.out))⟩;(try clear BK176);(try clear HB);generalize (((((w25.setCell ⟨gb176,0,none⟩ (.string ((rd_T64 l0 x7_1).f0))).setCell ⟨gb176,1,none⟩ (.int .i64 ((rd_T64 l0 x7_1).f1))).setCell ⟨gb176,2,none⟩ (.int .i64 ((rd_T64 l0 x7_1).f2))).setCell ⟨gb176,3,none⟩ (.int .i64 ((rd_T64 l0 x7_1).f3))).setCell ⟨gb176,4,none⟩ (.int .i64 ((rd_T64 l0 x7_1).f4))) = w27 at n0_ n1_ ⊢;have BK176:=n0_;have HB:=n1_;clear n0_ n1_;have n0_:=am_ (blk_drew BK176.out);have n1_:=am_ (below_drew1 HB.out);clear BK176;clear HB;have BK176:=n0_;have HB:=n1_;clear n0_ n1_
       refine start_ (n:=12) (S:=fun w' => w'.cell? ⟨gb176,0,none⟩ = some (.string ((rd_T64 l0 x7_1).f0)) ∧ w'.cell? ⟨gb176,1,none⟩ = some (.int .i64 ((rd_T64 l0 x7_1).f1)) ∧ w'.cell? ⟨gb176,2,none⟩ = some (.int .i64 ((rd_T64 l0 x7_1).f2)) ∧ w'.cell? ⟨gb176,3,none⟩ = some (.int .i64 ((rd_T64 l0 x7_1).f3)) ∧ w'.cell? ⟨gb176,4,none⟩ = some (.int .i64 ((rd_T64 l0 x7_1).f4))) (ds := []) #[false,false,false,false,false,false,false,false,false,false,false,false] (by kernel_rfl) rfl rfl ⟨(blk_cell BK176.out 0).trans rfl,(blk_cell BK176.out 1).trans rfl,(blk_cell BK176.out 2).trans rfl,(blk_cell BK176.out 3).trans rfl,(blk_cell BK176.out 4).trans rfl⟩ (fun hHeld => ?_);refine with_tabW impl_IsValidContainers.tab4 impl_IsValidContainers.bits4 (fun HT_ HW_ => ?_)
       generalize w27.drew = w28 at BK176 HB hHeld ⊢;refine take_ (i:=0) (N:=some 12) (v:=?_) (a':=?_) #[true,false,false,false,false,false,false,false,false,false,false,false] rfl rfl (take_ofW HT_.out HW_.out (by kernel_rfl)) (fun _ _ _ h => h) (Or.inl ⟨by rfl, ?_⟩) hHeld ?_ ?_
       rotate_left
       ·rintro w' ⟨s0,s1,s2,s3,s4⟩
        go_simp
        with_reducible rfl
       rotate_left
       ·simp only [Act.put,sA_,s0_,s1_,i64_w,i32_w]
        rfl
       refine one_ (i:=1) (N:=some 13) #[true,true,false,false,false,false,false,false,false,false,false,false] rfl rfl (one_of HT_.out (by kernel_rfl)) (by decide) (fun K hK => ?_);refine goes_ Try.func69 (by kernel_rfl) rfl #[.agg #[.string ((rd_T64 l0 x7_1).f0), .int .i64 ((rd_T64 l0 x7_1).f1), .int .i64 ((rd_T64 l0 x7_1).f2), .int .i64 ((rd_T64 l0 x7_1).f3), .int .i64 ((rd_T64 l0 x7_1).f4)]] (by rfl) rfl rfl (by (try simp only [List.map_toArray,List.map_cons,List.map_nil]);rfl) ?_
       with_reducible refine (impl_IsValidContainer.calls k1 ((rd_T64 l0 x7_1).f0) ((rd_T64 l0 x7_1).f1) ((rd_T64 l0 x7_1).f2) ((rd_T64 l0 x7_1).f3) ((rd_T64 l0 x7_1).f4) false _ A5.out).mono ?_
       rintro e w29 ⟨rfl,hb⟩;refine ⟨_,rfl, ?_⟩;have n0_:=am_ (blk_below (by exact BK176.out) hb);have n1_:=am_ (below_step (by exact HB.out) hb);clear BK176;clear HB;have BK176:=n0_;have HB:=n1_;clear n0_ n1_;(try clear hb)
       (skip)
       (skip)
       (skip)
       refine hK.out _ _ ⟨(blk_cell BK176.out 0).trans rfl,(blk_cell BK176.out 1).trans rfl,(blk_cell BK176.out 2).trans rfl,(blk_cell BK176.out 3).trans rfl,(blk_cell BK176.out 4).trans rfl⟩ (fun hHeld => ?_);clear hK K;refine norm_ (a':=?_) ?_ ?_
       rotate_left
       ·show Act.put _ (some 13) _ = _
        simp only [Act.put,sA_,s0_,s1_,i64_w,i32_w]
        rfl
       refine pure_ (i:=2) (N:=some 14) (v:=?_) (a':=?_) #[true,true,true,false,false,false,false,false,false,false,false,false] rfl rfl (any_of HT_.out (by kernel_rfl)) (fun _ _ _ h => h) (Or.inl ⟨by rfl, ?_⟩) ?_ ?_
       rotate_left
       ·intro w'
        go_simp
        with_reducible rfl
       rotate_left
       ·simp only [Act.put,sA_,s0_,s1_,i64_w,i32_w]
        rfl
       refine pure_ (i:=3) (N:=some 15) (v:=?_) (a':=?_) #[true,true,true,true,false,false,false,false,false,false,false,false] rfl rfl (any_of HT_.out (by kernel_rfl)) (fun _ _ _ h => h) (Or.inl ⟨by rfl, ?_⟩) ?_ ?_
       rotate_left
       ·intro w'
        go_simp
        with_reducible rfl
       rotate_left
       ·simp only [Act.put,sA_,s0_,s1_,i64_w,i32_w]
        rfl
       refine pure_ (i:=4) (N:=some 16) (v:=undef) (a':=?_) #[true,true,true,true,true,false,false,false,false,false,false,false] rfl rfl (any_of HT_.out (by kernel_rfl)) (fun _ _ _ h => h) (Or.inr ⟨by rfl,rfl⟩) ?_ ?_
       rotate_left
       ·simp only [Act.put,sA_,s0_,s1_,i64_w,i32_w]
        rfl
       refine pure_ (i:=5) (N:=some 17) (v:=undef) (a':=?_) #[true,true,true,true,true,true,false,false,false,false,false,false] rfl rfl (any_of HT_.out (by kernel_rfl)) (fun _ _ _ h => h) (Or.inr ⟨by rfl,rfl⟩) ?_ ?_
       rotate_left
       ·simp only [Act.put,sA_,s0_,s1_,i64_w,i32_w]
        rfl
       refine pure_ (i:=6) (N:=some 18) (v:=undef) (a':=?_) #[true,true,true,true,true,true,true,false,false,false,false,false] rfl rfl (any_of HT_.out (by kernel_rfl)) (fun _ _ _ h => h) (Or.inr ⟨by rfl,rfl⟩) ?_ ?_
       rotate_left
       ·simp only [Act.put,sA_,s0_,s1_,i64_w,i32_w]
        rfl
       refine pure_ (i:=7) (N:=some 19) (v:=undef) (a':=?_) #[true,true,true,true,true,true,true,true,false,false,false,false] rfl rfl (any_of HT_.out (by kernel_rfl)) (fun _ _ _ h => h) (Or.inr ⟨by rfl,rfl⟩) ?_ ?_
       rotate_left
       ·simp only [Act.put,sA_,s0_,s1_,i64_w,i32_w]
        rfl
       refine pure_ (i:=8) (N:=some 20) (v:=undef) (a':=?_) #[true,true,true,true,true,true,true,true,true,false,false,false] rfl rfl (any_of HT_.out (by kernel_rfl)) (fun _ _ _ h => h) (Or.inr ⟨by rfl,rfl⟩) ?_ ?_
       rotate_left
       ·simp only [Act.put,sA_,s0_,s1_,i64_w,i32_w]
        rfl
       refine pure_ (i:=9) (N:=some 21) (v:=undef) (a':=?_) #[true,true,true,true,true,true,true,true,true,true,false,false] rfl rfl (any_of HT_.out (by kernel_rfl)) (fun _ _ _ h => h) (Or.inr ⟨by rfl,rfl⟩) ?_ ?_
       rotate_left
       ·simp only [Act.put,sA_,s0_,s1_,i64_w,i32_w]
        rfl
       refine pure_ (i:=10) (N:=some 22) (v:=undef) (a':=?_) #[true,true,true,true,true,true,true,true,true,true,true,false] rfl rfl (any_of HT_.out (by kernel_rfl)) (fun _ _ _ h => h) (Or.inr ⟨by rfl,rfl⟩) ?_ ?_
       rotate_left
       ·simp only [Act.put,sA_,s0_,s1_,i64_w,i32_w]
        rfl
       refine pure_ (i:=11) (N:=some 23) (v:=?_) (a':=?_) #[true,true,true,true,true,true,true,true,true,true,true,true] rfl rfl (any_of HT_.out (by kernel_rfl)) (fun _ _ _ h => h) (Or.inl ⟨by rfl, ?_⟩) ?_ ?_
       rotate_left
       ·intro w'
        go_simp
        with_reducible rfl
       rotate_left
       ·simp only [Act.put,sA_,s0_,s1_,i64_w,i32_w]
        rfl
       refine done_ (done_of HT_.out (by kernel_rfl)) ?_
       try go_wp2
       go_ret
       exact ⟨by rfl,by exact HB.out⟩
     ·rw [if_neg c4] at H
      exact absurd H (by simp)
    ·rw [if_neg c3] at H
     exact absurd H (by simp)
   ·rw [if_neg c2] at H;have c2b0 : decide (x7_1 < (l0.length : Int)) = false:=decide_eq_false c2;clear c2;obtain rfl:=Option.some.inj H
    go_wp2
    go_ret
    exact ⟨by rfl,by exact HB.out⟩

end Go.Proofs.Ythbibjfnmljpkaa.PFnTrainLoading
