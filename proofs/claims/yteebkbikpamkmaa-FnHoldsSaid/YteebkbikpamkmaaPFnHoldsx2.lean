-- Written by a program of this session, over the kit's print (wip/xprint.py)
import Derived.Test.YteebkbikpamkmaaPFnHoldsx0
namespace Go.Proofs.Yteebkbikpamkmaa.PFnHolds
open Go.RowKit Go.Proofs.YteebkbikpamkmaaW.PrintWords Go.Proofs.YteebkbikpamkmaaW.PrintLast Go.Proofs.YteebkbikpamkmaaW.PrintMore
attribute [local go_sem] max2_int min2_int max_two min_two max_three min_three max_four min_four   -- for this text's walks alone
set_option linter.unusedVariables false
set_option linter.unusedSimpArgs false

/-! ### laws_rBig: function 5 -/
def laws_rBig.f (l0 : List Int) : Option (Bool):=some (decide ((l0.length : Int) > 65536))
set_option maxHeartbeats 8000000 in
set_option maxRecDepth 100000 in
theorem laws_rBig.calls (A0 : Option Addr) (c0 : Nat) (l0 : List Int) (r : Bool) (w : World) (hr0 : Kd.C (Kd.int .u8) w A0 l0.length l0) (hc0 : l0.length ≤ c0) (h : laws_rBig.f l0 = some r) :
  Calls Try.prog 5 #[.slice A0 l0.length c0] w fun e w' => e = .returned (.bool r) ∧ Drawn0 w w':=by
 have HR0:=Aside0.mk hr0
 have HC0:=Aside0.mk hc0
 clear hr0 hc0
 have H : (some (decide ((l0.length : Int) > 65536))) = some r:=h
 clear h
 obtain rfl:=Option.some.inj H
 go_enter Try.func5,Try.ntmps5
 go_wp2
 go_ret
 exact ⟨by rfl,by repeat (exact Drawn0.refl _)⟩

/-! ### spec_l20At: function 35 -/
def spec_l20At.l0 : Nat → List (S52) → Int → ByteArray → Int → Int → Option (Int)
 | 0,_,_,_,_,_ => none
 | k + 1,x0,x1,x2,x7,x8 => if x8 < x1 then (if 0 ≤ x8 then (if x8 < (x0.length : Int) then (if ((rd_T52 x0 x8).f1).toList = x2.toList then (spec_l20At.l0 k x0 x1 x2 (Go.bits .xor .i64 x7 ((rd_T52 x0 x8).f3)) (wrap64 (x8 + 1))) else (spec_l20At.l0 k x0 x1 x2 x7 (wrap64 (x8 + 1)))) else (none)) else (none)) else (some x7)
def spec_l20At.f (k : Nat) (l0 : List (S52)) (a1 : Int) (a2 : ByteArray) : Option (Int):=spec_l20At.l0 k l0 a1 a2 0 0
theorem spec_l20At.mono_l : ∀ k,(∀ y0 y1 y2 y3 y4,LeO (spec_l20At.l0 k y0 y1 y2 y3 y4) (spec_l20At.l0 (k + 1) y0 y1 y2 y3 y4))
 | 0 => fun _ _ _ _ _ r h => by simp [spec_l20At.l0] at h
 | k + 1 => by
  have ih0:=spec_l20At.mono_l k
  ·intro y0 y1 y2 y3 y4
   unfold spec_l20At.l0
   repeat' first
   | (with_reducible exact ih0 _ _ _ _ _)
   | (with_reducible exact LeO.refl _)
   | (with_reducible exact LeO.none _)
   | (with_reducible refine LeO.ite ?_ ?_)
   | (with_reducible refine LeO.bind ?_ (fun _ => ?_))
   | exact ih0 _ _ _ _ _
   | exact LeO.none _
   | refine LeO.ite ?_ ?_
   | refine LeO.bind ?_ (fun _ => ?_)
theorem spec_l20At.mono : ∀ a0 a1 a2 k,LeO (spec_l20At.f k a0 a1 a2) (spec_l20At.f (k + 1) a0 a1 a2):=by
 intro a0 a1 a2 k
 have ih0:=spec_l20At.mono_l k
 unfold spec_l20At.f
 repeat' first
   | (with_reducible exact ih0 _ _ _ _ _)
   | (with_reducible exact LeO.refl _)
   | (with_reducible exact LeO.none _)
   | (with_reducible refine LeO.ite ?_ ?_)
   | (with_reducible refine LeO.bind ?_ (fun _ => ?_))
   | exact ih0 _ _ _ _ _
   | exact LeO.none _
   | refine LeO.ite ?_ ?_
   | refine LeO.bind ?_ (fun _ => ?_)
set_option maxHeartbeats 8000000 in
set_option maxRecDepth 100000 in
theorem spec_l20At.calls (k : Nat) (A0 : Option Addr) (c0 : Nat) (l0 : List (S52)) (a1 : Int) (a2 : ByteArray) (r : Int) (w : World) (hr0 : Kd.C k52 w A0 l0.length l0) (hc0 : l0.length ≤ c0) (h : spec_l20At.f k l0 a1 a2 = some r) :
  Calls Try.prog 35 #[.slice A0 l0.length c0, .int .i64 a1, .string a2] w fun e w' => e = .returned (.int .i64 r) ∧ Drawn0 w w':=by
 have HR0:=Aside0.mk hr0
 have HC0:=Aside0.mk hc0
 clear hr0 hc0
 have H : (spec_l20At.l0 k l0 a1 a2 0 0) = some r:=h
 clear h
 have H':=Aside0.mk H
 clear H
 go_enter Try.func35,Try.ntmps35
 go_wp2
 go_loopg [7,8] k (fun kq v7 v8 w' => ∃ (x7_1 : Int) (x8_1 : Int),v7 = .int .i64 x7_1 ∧ v8 = .int .i64 x8_1 ∧ Aside0 (spec_l20At.l0 kq l0 a1 a2 x7_1 x8_1 = some r) ∧ Aside0 (kq ≤ k) ∧ Drawn0 w w')
 case atStart => exact ⟨(0),(0),(by rfl),(by rfl),H',⟨Nat.le_refl _⟩,by repeat (exact Drawn0.refl _)⟩
 case round =>
  clear H'
  try clear p2
  try clear c3
  obtain ⟨x7_1,x8_1,rfl,rfl,HA,HK1,⟨m1,rfl⟩⟩ := hrel
  cases gk with
  | zero => exact absurd HA.out (by simp [spec_l20At.l0])
  | succ k1 =>
   have H:=HA.out
   clear HA
   simp only [spec_l20At.l0] at H
   by_cases c4 : x8_1 < a1
   ·rw [if_pos c4] at H
    have c4b0 : decide (x8_1 < a1) = true:=decide_eq_true c4
    clear c4
    by_cases c5 : 0 ≤ x8_1
    ·rw [if_pos c5] at H
     have c5b0 : decide (0 ≤ x8_1) = true:=decide_eq_true c5
     clear c5
     by_cases c6 : x8_1 < (l0.length : Int)
     ·rw [if_pos c6] at H
      have c6b0 : decide (x8_1 < (l0.length : Int)) = true:=decide_eq_true c6
      clear c6
      by_cases c7 : ((rd_T52 l0 x8_1).f1).toList = a2.toList
      ·rw [if_pos c7] at H
       have c7b0 : (((rd_T52 l0 x8_1).f1).toList == a2.toList) = true:=beq_iff_eq.mpr c7
       have c7b1 : (((rd_T52 l0 x8_1).f1).toList != a2.toList) = false:=bne_eq_false_iff_eq.mpr c7
       clear c7
       have H':=Aside0.mk H
       clear H
       have p101 : 0 ≤ (x8_1 : Int):=of_decide_eq_true (by (with_reducible assumption))
       have q101 : x8_1 < (l0.length : Int):=of_decide_eq_true (by (with_reducible assumption))
       obtain ⟨ad101,e101,hx101_0,hx101_1,hx101_2,hx101_3⟩ := at_T52 HR0.out x8_1 p101 q101
       cases e101
       replace p101:=eq_true p101
       replace q101:=eq_true q101
       have p102 : 0 ≤ (x8_1 : Int):=of_decide_eq_true (by (with_reducible assumption))
       have q102 : x8_1 < (l0.length : Int):=of_decide_eq_true (by (with_reducible assumption))
       obtain ⟨ad102,e102,hx102_0,hx102_1,hx102_2,hx102_3⟩ := at_T52 HR0.out x8_1 p102 q102
       obtain rfl : ad101 = ad102:=(by injection e102)
       replace p102:=eq_true p102
       replace q102:=eq_true q102
       go_wp2
       go_roundg k1
       case measure => have:=HK1.out;omega
       case rel => exact ⟨(Go.bits .xor .i64 x7_1 ((rd_T52 l0 x8_1).f3)),(wrap64 (x8_1 + 1)),(by rfl),(by rfl),H',⟨by have:=HK1.out;omega⟩,by repeat (first | exact Drawn0.refl _ | apply Drawn0.step)⟩
      ·rw [if_neg c7] at H
       have c7b0 : (((rd_T52 l0 x8_1).f1).toList == a2.toList) = false:=beq_eq_false_iff_ne.mpr c7
       have c7b1 : (((rd_T52 l0 x8_1).f1).toList != a2.toList) = true:=bne_iff_ne.mpr c7
       have H':=Aside0.mk H
       clear H
       have p101 : 0 ≤ (x8_1 : Int):=of_decide_eq_true (by (with_reducible assumption))
       have q101 : x8_1 < (l0.length : Int):=of_decide_eq_true (by (with_reducible assumption))
       obtain ⟨ad101,e101,hx101_0,hx101_1,hx101_2,hx101_3⟩ := at_T52 HR0.out x8_1 p101 q101
       cases e101
       replace p101:=eq_true p101
       replace q101:=eq_true q101
       go_wp2
       go_roundg k1
       case measure => have:=HK1.out;omega
       case rel => exact ⟨(x7_1),(wrap64 (x8_1 + 1)),(by rfl),(by rfl),H',⟨by have:=HK1.out;omega⟩,by repeat (first | exact Drawn0.refl _ | apply Drawn0.step)⟩
     ·rw [if_neg c6] at H
      exact absurd H (by simp)
    ·rw [if_neg c5] at H
     exact absurd H (by simp)
   ·rw [if_neg c4] at H
    have c4b0 : decide (x8_1 < a1) = false:=decide_eq_false c4
    clear c4
    obtain rfl:=Option.some.inj H
    go_wp2
    go_ret
    exact ⟨by rfl,by repeat (first | exact Drawn0.refl _ | apply Drawn0.step)⟩

/-- A state of type 61 at block g of W;what its slices lead to came in by w0. -/
def IsS61 (w0 W : World) (g : Nat) (f0 : List Int) (f1 : Int) (f2 : Int) : Prop := ∃ A0 c0,W.heap[g]? = some (.cells #[.slice A0 f0.length c0, .int .i64 f1, .int .u64 f2] 61 (0,0)) ∧ w0.heap.size ≤ g ∧ Kd.C (Kd.int .u8) w0 A0 f0.length f0
theorem IsS61.grown {w0 W : World} {g : Nat} {f0 : List Int} {f1 : Int} {f2 : Int} {W1 : World} {row : Option Nat} (h : IsS61 w0 W g f0 f1 f2) (hw : W.grownBy W1 row) (hne : some g ≠ row) : IsS61 w0 W1 g f0 f1 f2:=by
 obtain ⟨A0,c0,hb,hg,hr0⟩ := h
 exact ⟨A0,c0,blk_grown hb hw hne,hg,hr0⟩
theorem IsS61.own_neN {w0 W : World} {g : Nat} {f0 : List Int} {f1 : Int} {f2 : Int} {α : Type} {d : Kd α} {e : Nat} {base : Nat} {ok : Nat → Prop} {v : Value} {xs : List α} (h : IsS61 w0 W g f0 f1 f2) (ho : Kd.N d e W base ok v xs) (ht : e ≠ 61) : some g ≠ v.ownBlock:=by
 obtain ⟨A0,c0,hb,hg,hr0⟩ := h
 exact Kd.N_ne ho hb ht
theorem IsS61.fresh {w0 W : World} {g : Nat} {f0 : List Int} {f1 : Int} {f2 : Int} (h : IsS61 w0 W g f0 f1 f2) : ∀ k,W.heap.size ≤ k → k ≠ g:=by
 obtain ⟨A0,c0,hb,hg,hr0⟩ := h
 exact Kd.freshB hb
theorem IsS61.kept {w0 W : World} {g : Nat} {f0 : List Int} {f1 : Int} {f2 : Int} {W1 : World} {S : Nat → Prop} (h : IsS61 w0 W g f0 f1 f2) (hk : Kept W W1 S) (hne : ¬ S g) : IsS61 w0 W1 g f0 f1 f2:=by
 obtain ⟨A0,c0,hb,hg,hr0⟩ := h
 exact ⟨A0,c0,blk_kept hb hk hne,hg,hr0⟩
theorem IsS61.below {w0 W : World} {g : Nat} {f0 : List Int} {f1 : Int} {f2 : Int} {W1 : World} (h : IsS61 w0 W g f0 f1 f2) (hw : Below W.heap.size W W1) : IsS61 w0 W1 g f0 f1 f2:=h.grown (grown_of_below hw none) (by simp)
theorem IsS61.alloc {w0 W : World} {g : Nat} {f0 : List Int} {f1 : Int} {f2 : Int} (h : IsS61 w0 W g f0 f1 f2) (o : Obj) : IsS61 w0 (W.alloc o) g f0 f1 f2:=h.below (below_alloc (Below.refl _ _) o)
theorem IsS61.drewN {w0 W : World} {g : Nat} {f0 : List Int} {f1 : Int} {f2 : Int} (h : IsS61 w0 W g f0 f1 f2) (m : Nat) : IsS61 w0 (W.drewN m) g f0 f1 f2:=h
theorem IsS61.drew {w0 W : World} {g : Nat} {f0 : List Int} {f1 : Int} {f2 : Int} (h : IsS61 w0 W g f0 f1 f2) : IsS61 w0 W.drew g f0 f1 f2:=h
theorem IsS61.at_ {w0 W : World} {g : Nat} {f0 : List Int} {f1 : Int} {f2 : Int} {w' : World} {m : Nat} (hq : W.drewN m = w') (h : IsS61 w0 W g f0 f1 f2) : IsS61 w0 w' g f0 f1 f2:=by subst hq;exact IsS61.drewN h m
theorem IsS61.apart {w0 W : World} {g : Nat} {f0 : List Int} {f1 : Int} {f2 : Int} {α : Type} {d : Kd α} {e : Nat} {base : Nat} {ok : Nat → Prop} {v : Value} {xs : List α} (h : IsS61 w0 W g f0 f1 f2) (ho : d.R e W base ok v xs) (ht : ∀ q,q ∈ e :: d.E → q ≠ 61) : d.R e W base (fun k => ok k ∧ k ≠ g) v xs:=by
 obtain ⟨A0,c0,hb,hg,hr0⟩ := h
 exact Kd.R_types ho hb ht
theorem IsS61.own_ne {w0 W : World} {g : Nat} {f0 : List Int} {f1 : Int} {f2 : Int} {α : Type} {d : Kd α} {e : Nat} {base : Nat} {ok : Nat → Prop} {v : Value} {xs : List α} (h : IsS61 w0 W g f0 f1 f2) (ho : d.R e W base ok v xs) (ht : e ≠ 61) : some g ≠ v.ownBlock:=by
 obtain ⟨A0,c0,hb,hg,hr0⟩ := h
 exact Kd.R_ne ho hb ht
theorem IsS61.apartQ {w0 W : World} {g : Nat} {f0 : List Int} {f1 : Int} {f2 : Int} {α : Type} {d : Kd α} {e : Nat} {base : Nat} {ok : Nat → Prop} {v : Value} {xs : List α} (h : IsS61 w0 W g f0 f1 f2) (ho : d.Q e W base ok v xs) (ht : ∀ q,q ∈ e :: d.E → q ≠ 61) : d.Q e W base (fun k => ok k ∧ k ≠ g) v xs:=by
 obtain ⟨A0,c0,hb,hg,hr0⟩ := h
 exact Kd.Q_types ho hb ht
theorem IsS61.own_neQ {w0 W : World} {g : Nat} {f0 : List Int} {f1 : Int} {f2 : Int} {α : Type} {d : Kd α} {e : Nat} {base : Nat} {ok : Nat → Prop} {v : Value} {xs : List α} (h : IsS61 w0 W g f0 f1 f2) (ho : d.Q e W base ok v xs) (ht : e ≠ 61) : some g ≠ v.ownBlock:=by
 obtain ⟨A0,c0,hb,hg,hr0⟩ := h
 exact Kd.Q_ne ho hb ht
theorem IsS61.apartS {w0 W : World} {g : Nat} {f0 : List Int} {f1 : Int} {f2 : Int} {α : Type} {d : Kd α} {e : Nat} {base : Nat} {ok : Nat → Prop} {v : Value} {xs : List α} (h : IsS61 w0 W g f0 f1 f2) (ho : d.S e W base ok v xs) (ht : ∀ q,q ∈ e :: d.E → q ≠ 61) : d.S e W base (fun k => ok k ∧ k ≠ g) v xs:=by
 obtain ⟨A0,c0,hb,hg,hr0⟩ := h
 exact Kd.S_types ho hb ht
theorem IsS61.own_neS {w0 W : World} {g : Nat} {f0 : List Int} {f1 : Int} {f2 : Int} {α : Type} {d : Kd α} {e : Nat} {base : Nat} {ok : Nat → Prop} {v : Value} {xs : List α} (h : IsS61 w0 W g f0 f1 f2) (ho : d.S e W base ok v xs) (ht : e ≠ 61) : some g ≠ v.ownBlock:=by
 obtain ⟨A0,c0,hb,hg,hr0⟩ := h
 exact Kd.S_ne ho hb ht
theorem IsS61.lt {w0 W : World} {g : Nat} {f0 : List Int} {f1 : Int} {f2 : Int} (h : IsS61 w0 W g f0 f1 f2) : g < W.heap.size:=by
 obtain ⟨A0,c0,hb,hg,hr0⟩ := h
 exact blk_lt hb
theorem IsS61.ge {w0 W : World} {g : Nat} {f0 : List Int} {f1 : Int} {f2 : Int} (h : IsS61 w0 W g f0 f1 f2) : w0.heap.size ≤ g:=by
 obtain ⟨A0,c0,hb,hg,hr0⟩ := h
 exact hg
theorem IsS61.ne_blk {w0 W : World} {g : Nat} {f0 : List Int} {f1 : Int} {f2 : Int} {a : Nat} {cs : Array Value} {t : TypeId} {fr : Nat × Nat} (h : IsS61 w0 W g f0 f1 f2) (hb2 : W.heap[a]? = some (.cells cs t fr)) (ht : t ≠ 61) : g ≠ a:=by
 obtain ⟨A0,c0,hb,hg,hr0⟩ := h
 rintro rfl
 rw [hb] at hb2
 injection hb2 with hb2
 injection hb2 with _ ht2
 exact ht ht2.symm
theorem IsS61.far {w0 W : World} {g : Nat} {f0 : List Int} {f1 : Int} {f2 : Int} {p : Addr} (h : IsS61 w0 W g f0 f1 f2) (hne : g ≠ p.block) (u : Value) : IsS61 w0 (W.setCell p u) g f0 f1 f2:=by
 obtain ⟨A0,c0,hb,hg,hr0⟩ := h
 exact ⟨A0,c0,blk_far hb hne u,hg,hr0⟩
theorem cellS61_0 {W : World} {g : Nat} {A0 : Option Addr} {c0 : Nat} {f0 : List Int} {f1 : Int} {f2 : Int} (h : W.heap[g]? = some (.cells #[.slice A0 f0.length c0, .int .i64 f1, .int .u64 f2] 61 (0,0))) : W.cell? ⟨g,0,none⟩ = some (.slice A0 f0.length c0):=(blk_cell h 0).trans rfl
theorem cellS61_1 {W : World} {g : Nat} {A0 : Option Addr} {c0 : Nat} {f0 : List Int} {f1 : Int} {f2 : Int} (h : W.heap[g]? = some (.cells #[.slice A0 f0.length c0, .int .i64 f1, .int .u64 f2] 61 (0,0))) : W.cell? ⟨g,1,none⟩ = some (.int .i64 f1):=(blk_cell h 1).trans rfl
theorem IsS61.set_1 {w0 W : World} {g : Nat} {f0 : List Int} {f1 : Int} {f2 : Int} (h : IsS61 w0 W g f0 f1 f2) (x : Int) : IsS61 w0 (W.setCell ⟨g,1,none⟩ (.int .i64 x)) g f0 x f2:=by
 obtain ⟨A0,c0,hb,hg,hr0⟩ := h
 exact ⟨A0,c0,by simpa using blk_set hb 1 (.int .i64 x),hg,hr0⟩
theorem cellS61_2 {W : World} {g : Nat} {A0 : Option Addr} {c0 : Nat} {f0 : List Int} {f1 : Int} {f2 : Int} (h : W.heap[g]? = some (.cells #[.slice A0 f0.length c0, .int .i64 f1, .int .u64 f2] 61 (0,0))) : W.cell? ⟨g,2,none⟩ = some (.int .u64 f2):=(blk_cell h 2).trans rfl
theorem IsS61.set_2 {w0 W : World} {g : Nat} {f0 : List Int} {f1 : Int} {f2 : Int} (h : IsS61 w0 W g f0 f1 f2) (x : Int) : IsS61 w0 (W.setCell ⟨g,2,none⟩ (.int .u64 x)) g f0 f1 x:=by
 obtain ⟨A0,c0,hb,hg,hr0⟩ := h
 exact ⟨A0,c0,by simpa using blk_set hb 2 (.int .u64 x),hg,hr0⟩
theorem IsS61.new (w0 W : World) (A0 : Option Addr) (c0 : Nat) (f0 : List Int) (f1 : Int) (f2 : Int) (hB : Below w0.heap.size w0 W) (hr0 : Kd.C (Kd.int .u8) w0 A0 f0.length f0) : IsS61 w0 (W.alloc (.cells #[.slice A0 f0.length c0, .int .i64 f1, .int .u64 f2] 61)) W.heap.size f0 f1 f2:=⟨A0,c0,by simpa using heap_alloc_new W _,hB.size,hr0⟩

/-! ### spec_l1Cur_next: function 63 -/
def spec_l1Cur_next.f (s0_0 : List Int) (s0_1 : Int) (s0_2 : Int) : Option (Int × Int × Int):=if s0_1 < (s0_0.length : Int) then (if 0 ≤ s0_1 then (if (wrap64 (s0_1 + 1)) ≤ (s0_0.length : Int) then (some (wrap64 (rd s0_0 s0_1),wrap64 (s0_1 + 1),IntKind.u64.wrap ((IntKind.u64.wrap ((IntKind.u64.wrap (s0_2 * 6364136223846793005)) + (IntKind.u64.wrap (wrap64 (rd s0_0 s0_1))))) + 906906))) else (some (wrap64 (Go.bits .and .u64 ((IntKind.u64.wrap ((IntKind.u64.wrap ((IntKind.u64.wrap (s0_2 * 6364136223846793005)) + (IntKind.u64.wrap (wrap64 (rd s0_0 s0_1))))) + 906906)) / 1099511627776) 255),wrap64 (s0_1 + 1),IntKind.u64.wrap ((IntKind.u64.wrap ((IntKind.u64.wrap (s0_2 * 6364136223846793005)) + (IntKind.u64.wrap (wrap64 (rd s0_0 s0_1))))) + 906906)))) else (none)) else (if (wrap64 (s0_1 + 1)) ≤ (s0_0.length : Int) then (some (0,wrap64 (s0_1 + 1),IntKind.u64.wrap ((IntKind.u64.wrap (IntKind.u64.wrap (s0_2 * 6364136223846793005))) + 906906))) else (some (wrap64 (Go.bits .and .u64 ((IntKind.u64.wrap ((IntKind.u64.wrap (IntKind.u64.wrap (s0_2 * 6364136223846793005))) + 906906)) / 1099511627776) 255),wrap64 (s0_1 + 1),IntKind.u64.wrap ((IntKind.u64.wrap (IntKind.u64.wrap (s0_2 * 6364136223846793005))) + 906906))))
set_option maxHeartbeats 8000000 in
set_option maxRecDepth 100000 in
theorem spec_l1Cur_next.calls (g : Nat) (s0_0 : List Int) (s0_1 : Int) (s0_2 : Int) (r1 : Int) (r2 : Int) (r3 : Int) (w0 w : World) (hI : IsS61 w0 w g s0_0 s0_1 s0_2) (hB : Below w0.heap.size w0 w) (h : spec_l1Cur_next.f s0_0 s0_1 s0_2 = some (r1,r2,r3)) :
  Calls Try.prog 63 #[.pointer (some ⟨g,0,none⟩)] w fun e w' => e = .returned (.int .i64 r1) ∧ IsS61 w0 w' g s0_0 r2 r3 ∧ Below w0.heap.size w0 w' ∧ KeepBut w w' g none:=by
 have HI0:=Aside0.mk hI
 have HK:=Aside0.mk (KeepBut.refl w g none)
 have HL:=Aside0.mk hB.size
 clear hI
 have HW0:=Aside0.mk hB.size
 have HB:=Aside0.mk hB
 clear hB
 have H : (if s0_1 < (s0_0.length : Int) then (if 0 ≤ s0_1 then (if (wrap64 (s0_1 + 1)) ≤ (s0_0.length : Int) then (some (wrap64 (rd s0_0 s0_1),wrap64 (s0_1 + 1),IntKind.u64.wrap ((IntKind.u64.wrap ((IntKind.u64.wrap (s0_2 * 6364136223846793005)) + (IntKind.u64.wrap (wrap64 (rd s0_0 s0_1))))) + 906906))) else (some (wrap64 (Go.bits .and .u64 ((IntKind.u64.wrap ((IntKind.u64.wrap ((IntKind.u64.wrap (s0_2 * 6364136223846793005)) + (IntKind.u64.wrap (wrap64 (rd s0_0 s0_1))))) + 906906)) / 1099511627776) 255),wrap64 (s0_1 + 1),IntKind.u64.wrap ((IntKind.u64.wrap ((IntKind.u64.wrap (s0_2 * 6364136223846793005)) + (IntKind.u64.wrap (wrap64 (rd s0_0 s0_1))))) + 906906)))) else (none)) else (if (wrap64 (s0_1 + 1)) ≤ (s0_0.length : Int) then (some (0,wrap64 (s0_1 + 1),IntKind.u64.wrap ((IntKind.u64.wrap (IntKind.u64.wrap (s0_2 * 6364136223846793005))) + 906906))) else (some (wrap64 (Go.bits .and .u64 ((IntKind.u64.wrap ((IntKind.u64.wrap (IntKind.u64.wrap (s0_2 * 6364136223846793005))) + 906906)) / 1099511627776) 255),wrap64 (s0_1 + 1),IntKind.u64.wrap ((IntKind.u64.wrap (IntKind.u64.wrap (s0_2 * 6364136223846793005))) + 906906))))) = some (r1,r2,r3):=h
 clear h
 by_cases c2 : s0_1 < (s0_0.length : Int)
 ·rw [if_pos c2] at H
  have c2b0 : decide (s0_1 < (s0_0.length : Int)) = true:=decide_eq_true c2
  clear c2
  by_cases c3 : 0 ≤ s0_1
  ·rw [if_pos c3] at H
   have c3b0 : decide (0 ≤ s0_1) = true:=decide_eq_true c3
   clear c3
   by_cases c4 : (wrap64 (s0_1 + 1)) ≤ (s0_0.length : Int)
   ·rw [if_pos c4] at H
    have c4b0 : decide ((wrap64 (s0_1 + 1)) ≤ (s0_0.length : Int)) = true:=decide_eq_true c4
    clear c4
    simp only [Option.some.injEq,Prod.mk.injEq] at H
    obtain ⟨rfl,rfl,rfl⟩ := H
    obtain ⟨ASz5_0,cSz5_0,HGz5,hgz5,HSz5_0⟩ := HI0.out
    have hcz5_0:=cellS61_0 HGz5
    have hcz5_1:=cellS61_1 HGz5
    have hcz5_2:=cellS61_2 HGz5
    have hfz5_1:=blk_frozen HGz5 1
    have hfz5_2:=blk_frozen HGz5 2
    clear HGz5 hgz5
    have p103 : 0 ≤ (s0_1 : Int):=of_decide_eq_true (by (with_reducible assumption))
    have q103 : s0_1 < (s0_0.length : Int):=of_decide_eq_true (by (with_reducible assumption))
    obtain ⟨ad103,e103,hx103_0⟩ := Kd.at_int HSz5_0 s0_1 p103 q103
    cases e103
    replace hx103_0:=pw_cell_below HB.out hx103_0
    replace p103:=eq_true p103
    replace q103:=eq_true q103
    go_enter Try.func63,Try.ntmps63
    go_wp2
    repeat (go_quiet (fail);try go_wp2)
    go_ret
    exact ⟨by rfl,by repeat ((with_reducible first | exact HI0.out | apply IsS61.drewN | apply IsS61.set_1 | apply IsS61.set_2)),by repeat ((with_reducible first | exact HB.out | apply pw_below_drewN | refine below_set ?_ (IsS61.ge HI0.out))),by repeat ((with_reducible first | exact HK.out | apply KeepBut.set_ | apply keep_drewN))⟩
   ·rw [if_neg c4] at H
    have c4b0 : decide ((wrap64 (s0_1 + 1)) ≤ (s0_0.length : Int)) = false:=decide_eq_false c4
    clear c4
    simp only [Option.some.injEq,Prod.mk.injEq] at H
    obtain ⟨rfl,rfl,rfl⟩ := H
    obtain ⟨ASz6_0,cSz6_0,HGz6,hgz6,HSz6_0⟩ := HI0.out
    have hcz6_0:=cellS61_0 HGz6
    have hcz6_1:=cellS61_1 HGz6
    have hcz6_2:=cellS61_2 HGz6
    have hfz6_1:=blk_frozen HGz6 1
    have hfz6_2:=blk_frozen HGz6 2
    clear HGz6 hgz6
    have p103 : 0 ≤ (s0_1 : Int):=of_decide_eq_true (by (with_reducible assumption))
    have q103 : s0_1 < (s0_0.length : Int):=of_decide_eq_true (by (with_reducible assumption))
    obtain ⟨ad103,e103,hx103_0⟩ := Kd.at_int HSz6_0 s0_1 p103 q103
    cases e103
    replace hx103_0:=pw_cell_below HB.out hx103_0
    replace p103:=eq_true p103
    replace q103:=eq_true q103
    go_enter Try.func63,Try.ntmps63
    go_wp2
    repeat (go_quiet (fail);try go_wp2)
    go_ret
    exact ⟨by rfl,by repeat ((with_reducible first | exact HI0.out | apply IsS61.drewN | apply IsS61.set_1 | apply IsS61.set_2)),by repeat ((with_reducible first | exact HB.out | apply pw_below_drewN | refine below_set ?_ (IsS61.ge HI0.out))),by repeat ((with_reducible first | exact HK.out | apply KeepBut.set_ | apply keep_drewN))⟩
  ·rw [if_neg c3] at H
   exact absurd H (by simp)
 ·rw [if_neg c2] at H
  have c2b0 : decide (s0_1 < (s0_0.length : Int)) = false:=decide_eq_false c2
  clear c2
  by_cases c7 : (wrap64 (s0_1 + 1)) ≤ (s0_0.length : Int)
  ·rw [if_pos c7] at H
   have c7b0 : decide ((wrap64 (s0_1 + 1)) ≤ (s0_0.length : Int)) = true:=decide_eq_true c7
   clear c7
   simp only [Option.some.injEq,Prod.mk.injEq] at H
   obtain ⟨rfl,rfl,rfl⟩ := H
   obtain ⟨ASz8_0,cSz8_0,HGz8,hgz8,HSz8_0⟩ := HI0.out
   have hcz8_0:=cellS61_0 HGz8
   have hcz8_1:=cellS61_1 HGz8
   have hcz8_2:=cellS61_2 HGz8
   have hfz8_1:=blk_frozen HGz8 1
   have hfz8_2:=blk_frozen HGz8 2
   clear HGz8 hgz8
   go_enter Try.func63,Try.ntmps63
   go_wp2
   repeat (go_quiet (fail);try go_wp2)
   go_ret
   exact ⟨by rfl,by repeat ((with_reducible first | exact HI0.out | apply IsS61.drewN | apply IsS61.set_1 | apply IsS61.set_2)),by repeat ((with_reducible first | exact HB.out | apply pw_below_drewN | refine below_set ?_ (IsS61.ge HI0.out))),by repeat ((with_reducible first | exact HK.out | apply KeepBut.set_ | apply keep_drewN))⟩
  ·rw [if_neg c7] at H
   have c7b0 : decide ((wrap64 (s0_1 + 1)) ≤ (s0_0.length : Int)) = false:=decide_eq_false c7
   clear c7
   simp only [Option.some.injEq,Prod.mk.injEq] at H
   obtain ⟨rfl,rfl,rfl⟩ := H
   obtain ⟨ASz9_0,cSz9_0,HGz9,hgz9,HSz9_0⟩ := HI0.out
   have hcz9_0:=cellS61_0 HGz9
   have hcz9_1:=cellS61_1 HGz9
   have hcz9_2:=cellS61_2 HGz9
   have hfz9_1:=blk_frozen HGz9 1
   have hfz9_2:=blk_frozen HGz9 2
   clear HGz9 hgz9
   go_enter Try.func63,Try.ntmps63
   go_wp2
   repeat (go_quiet (fail);try go_wp2)
   go_ret
   exact ⟨by rfl,by repeat ((with_reducible first | exact HI0.out | apply IsS61.drewN | apply IsS61.set_1 | apply IsS61.set_2)),by repeat ((with_reducible first | exact HB.out | apply pw_below_drewN | refine below_set ?_ (IsS61.ge HI0.out))),by repeat ((with_reducible first | exact HK.out | apply KeepBut.set_ | apply keep_drewN))⟩

/-! ### spec_l1Cur_pick: function 45 -/
def spec_l1Cur_pick.f (s0_0 : List Int) (s0_1 : Int) (s0_2 : Int) (a1 : Int) : Option (Int × Int × Int):=if a1 ≤ 1 then (some (0,s0_1,s0_2)) else ((spec_l1Cur_next.f s0_0 s0_1 s0_2).bind fun bt104 => (if a1 > 200 then ((spec_l1Cur_next.f s0_0 bt104.2.1 bt104.2.2).bind fun bt107 => (if a1 = 0 then (none) else (some (Int.tmod (wrap64 ((wrap64 (bt104.1 * 256)) + bt107.1)) a1,bt107.2.1,bt107.2.2)))) else (if a1 = 0 then (none) else (some (Int.tmod bt104.1 a1,bt104.2.1,bt104.2.2)))))
set_option maxHeartbeats 8000000 in
set_option maxRecDepth 100000 in
theorem spec_l1Cur_pick.calls (g : Nat) (s0_0 : List Int) (s0_1 : Int) (s0_2 : Int) (a1 : Int) (r1 : Int) (r2 : Int) (r3 : Int) (w0 w : World) (hI : IsS61 w0 w g s0_0 s0_1 s0_2) (hB : Below w0.heap.size w0 w) (h : spec_l1Cur_pick.f s0_0 s0_1 s0_2 a1 = some (r1,r2,r3)) :
  Calls Try.prog 45 #[.pointer (some ⟨g,0,none⟩), .int .i64 a1] w fun e w' => e = .returned (.int .i64 r1) ∧ IsS61 w0 w' g s0_0 r2 r3 ∧ Below w0.heap.size w0 w' ∧ KeepBut w w' g none:=by
 have HI0:=Aside0.mk hI
 have HK:=Aside0.mk (KeepBut.refl w g none)
 have HL:=Aside0.mk hB.size
 clear hI
 have HW0:=Aside0.mk hB.size
 have HB:=Aside0.mk hB
 clear hB
 have H : (if a1 ≤ 1 then (some (0,s0_1,s0_2)) else ((spec_l1Cur_next.f s0_0 s0_1 s0_2).bind fun bt104 => (if a1 > 200 then ((spec_l1Cur_next.f s0_0 bt104.2.1 bt104.2.2).bind fun bt107 => (if a1 = 0 then (none) else (some (Int.tmod (wrap64 ((wrap64 (bt104.1 * 256)) + bt107.1)) a1,bt107.2.1,bt107.2.2)))) else (if a1 = 0 then (none) else (some (Int.tmod bt104.1 a1,bt104.2.1,bt104.2.2)))))) = some (r1,r2,r3):=h
 clear h
 by_cases c3 : a1 ≤ 1
 ·rw [if_pos c3] at H
  have c3b0 : decide (a1 ≤ 1) = true:=decide_eq_true c3
  clear c3
  simp only [Option.some.injEq,Prod.mk.injEq] at H
  obtain ⟨rfl,rfl,rfl⟩ := H
  go_enter Try.func45,Try.ntmps45
  go_wp2
  go_ret
  exact ⟨by rfl,by exact HI0.out,by exact HB.out,by exact HK.out⟩
 ·rw [if_neg c3] at H
  have c3b0 : decide (a1 ≤ 1) = false:=decide_eq_false c3
  clear c3
  replace H:=Option.bind_eq_some_iff.mp H
  obtain ⟨⟨t104,t105,t106⟩,A40,H⟩ := H
  replace H : (if a1 > 200 then ((spec_l1Cur_next.f s0_0 t105 t106).bind fun bt107 => (if a1 = 0 then (none) else (some (Int.tmod (wrap64 ((wrap64 (t104 * 256)) + bt107.1)) a1,bt107.2.1,bt107.2.2)))) else (if a1 = 0 then (none) else (some (Int.tmod t104 a1,t105,t106)))) = some (r1,r2,r3):=H
  have A4:=Aside0.mk A40
  clear A40
  by_cases c5 : a1 > 200
  ·rw [if_pos c5] at H
   have c5b0 : decide (200 < a1) = true:=decide_eq_true c5
   clear c5
   replace H:=Option.bind_eq_some_iff.mp H
   obtain ⟨⟨t107,t108,t109⟩,A60,H⟩ := H
   replace H : (if a1 = 0 then (none) else (some (Int.tmod (wrap64 ((wrap64 (t104 * 256)) + t107)) a1,t108,t109))) = some (r1,r2,r3):=H
   have A6:=Aside0.mk A60
   clear A60
   by_cases c7 : a1 = 0
   ·rw [if_pos c7] at H
    exact absurd H (by simp)
   ·rw [if_neg c7] at H
    have c7b0 : (a1 == 0) = false:=beq_eq_false_iff_ne.mpr c7
    have c7b1 : (a1 != 0) = true:=bne_iff_ne.mpr c7
    simp only [Option.some.injEq,Prod.mk.injEq] at H
    obtain ⟨rfl,rfl,rfl⟩ := H
    go_enter Try.func45,Try.ntmps45
    go_wp2_with (first | ((with_reducible refine gate_callee (f:=63) rfl ?_);refine goesL_ (some 9) rfl rfl Try.func63 (by kernel_rfl) rfl #[.pointer (some ⟨g,0,none⟩)] rfl (by (try simp only [List.map_toArray,List.map_cons,List.map_nil]);rfl) ?_;(with_reducible refine (spec_l1Cur_next.calls g s0_0 s0_1 s0_2 t104 t105 t106 w0 _ ?side1 ?side2 A4.out).mono ?_);(case side1 => exact HI0.out);(case side2 => exact HB.out);rintro e w8 ⟨rfl,hi,hb,hk⟩;refine ⟨_,rfl, ?_⟩;have n0_:=Aside0.mk (KeepBut.trans (by exact HK.out) hk (.inl rfl));have n1_:=Aside0.mk (hb);have n2_:=Aside0.mk (hi);clear HK;clear HB;clear HI0;have HK:=n0_;have HB:=n1_;have HI0:=n2_;clear n0_ n1_ n2_;(try clear hb);(try clear hk);(try clear hi)) | ((with_reducible refine gate_callee (f:=63) rfl ?_);refine goesL_ (some 15) rfl rfl Try.func63 (by kernel_rfl) rfl #[.pointer (some ⟨g,0,none⟩)] rfl (by (try simp only [List.map_toArray,List.map_cons,List.map_nil]);rfl) ?_;(with_reducible refine (spec_l1Cur_next.calls g s0_0 t105 t106 t107 t108 t109 w0 _ ?side1 ?side2 A6.out).mono ?_);(case side1 => exact HI0.out);(case side2 => exact HB.out);rintro e w9 ⟨rfl,hi,hb,hk⟩;refine ⟨_,rfl, ?_⟩;have n0_:=Aside0.mk (KeepBut.trans (by exact HK.out) hk (.inl rfl));have n1_:=Aside0.mk (hb);have n2_:=Aside0.mk (hi);clear HK;clear HB;clear HI0;have HK:=n0_;have HB:=n1_;have HI0:=n2_;clear n0_ n1_ n2_;(try clear hb);(try clear hk);(try clear hi)))
    go_ret
    exact ⟨by rfl,by exact HI0.out,by exact HB.out,by exact HK.out⟩
  ·rw [if_neg c5] at H
   have c5b0 : decide (200 < a1) = false:=decide_eq_false c5
   clear c5
   by_cases c10 : a1 = 0
   ·rw [if_pos c10] at H
    exact absurd H (by simp)
   ·rw [if_neg c10] at H
    have c10b0 : (a1 == 0) = false:=beq_eq_false_iff_ne.mpr c10
    have c10b1 : (a1 != 0) = true:=bne_iff_ne.mpr c10
    simp only [Option.some.injEq,Prod.mk.injEq] at H
    obtain ⟨rfl,rfl,rfl⟩ := H
    go_enter Try.func45,Try.ntmps45
    go_wp2_with (((with_reducible refine gate_callee (f:=63) rfl ?_);refine goesL_ (some 9) rfl rfl Try.func63 (by kernel_rfl) rfl #[.pointer (some ⟨g,0,none⟩)] rfl (by (try simp only [List.map_toArray,List.map_cons,List.map_nil]);rfl) ?_;(with_reducible refine (spec_l1Cur_next.calls g s0_0 s0_1 s0_2 t104 t105 t106 w0 _ ?side1 ?side2 A4.out).mono ?_);(case side1 => exact HI0.out);(case side2 => exact HB.out);rintro e w11 ⟨rfl,hi,hb,hk⟩;refine ⟨_,rfl, ?_⟩;have n0_:=Aside0.mk (KeepBut.trans (by exact HK.out) hk (.inl rfl));have n1_:=Aside0.mk (hb);have n2_:=Aside0.mk (hi);clear HK;clear HB;clear HI0;have HK:=n0_;have HB:=n1_;have HI0:=n2_;clear n0_ n1_ n2_;(try clear hb);(try clear hk);(try clear hi)))
    go_ret
    exact ⟨by rfl,by exact HI0.out,by exact HB.out,by exact HK.out⟩

/-! ### spec_l2Check: function 53 -/
def spec_l2Check.l0 : Nat → ByteArray → Int → Int → Option (Int)
 | 0,_,_,_ => none
 | k + 1,x0,x3,x4 => if x4 < 7 then (if 0 ≤ x4 then (if x4 < (x0.size : Int) then (if x4 < 3 then (spec_l2Check.l0 k x0 (wrap64 (x3 + (wrap64 ((wrap64 ((wrap64 ((wrap64 (bt x0 x4)) - 65)) + 1)) * (wrap64 (x4 + 2)))))) (wrap64 (x4 + 1))) else (spec_l2Check.l0 k x0 (wrap64 (x3 + (wrap64 ((wrap64 ((wrap64 (bt x0 x4)) - 48)) * (wrap64 (x4 + 2)))))) (wrap64 (x4 + 1)))) else (none)) else (none)) else (some ((65 + ((Int.tmod x3 23) % 256)) % 256))
def spec_l2Check.f (k : Nat) (a0 : ByteArray) : Option (Int):=spec_l2Check.l0 k a0 0 0
theorem spec_l2Check.mono_l : ∀ k,(∀ y0 y1 y2,LeO (spec_l2Check.l0 k y0 y1 y2) (spec_l2Check.l0 (k + 1) y0 y1 y2))
 | 0 => fun _ _ _ r h => by simp [spec_l2Check.l0] at h
 | k + 1 => by
  have ih0:=spec_l2Check.mono_l k
  ·intro y0 y1 y2
   unfold spec_l2Check.l0
   repeat' first
   | (with_reducible exact ih0 _ _ _)
   | (with_reducible exact LeO.refl _)
   | (with_reducible exact LeO.none _)
   | (with_reducible refine LeO.ite ?_ ?_)
   | (with_reducible refine LeO.bind ?_ (fun _ => ?_))
   | exact ih0 _ _ _
   | exact LeO.none _
   | refine LeO.ite ?_ ?_
   | refine LeO.bind ?_ (fun _ => ?_)
theorem spec_l2Check.mono : ∀ a0 k,LeO (spec_l2Check.f k a0) (spec_l2Check.f (k + 1) a0):=by
 intro a0 k
 have ih0:=spec_l2Check.mono_l k
 unfold spec_l2Check.f
 repeat' first
   | (with_reducible exact ih0 _ _ _)
   | (with_reducible exact LeO.refl _)
   | (with_reducible exact LeO.none _)
   | (with_reducible refine LeO.ite ?_ ?_)
   | (with_reducible refine LeO.bind ?_ (fun _ => ?_))
   | exact ih0 _ _ _
   | exact LeO.none _
   | refine LeO.ite ?_ ?_
   | refine LeO.bind ?_ (fun _ => ?_)
set_option maxHeartbeats 8000000 in
set_option maxRecDepth 100000 in
theorem spec_l2Check.calls (k : Nat) (a0 : ByteArray) (r : Int) (w : World) (h : spec_l2Check.f k a0 = some r) :
  Calls Try.prog 53 #[.string a0] w fun e w' => e = .returned (.int .u8 r) ∧ Drawn0 w w':=by
 have H : (spec_l2Check.l0 k a0 0 0) = some r:=h
 clear h
 have H':=Aside0.mk H
 clear H
 go_enter Try.func53,Try.ntmps53
 go_wp2
 go_loopg [3,4] k (fun kq v3 v4 w' => ∃ (x3_1 : Int) (x4_1 : Int),v3 = .int .i64 x3_1 ∧ v4 = .int .i64 x4_1 ∧ Aside0 (spec_l2Check.l0 kq a0 x3_1 x4_1 = some r) ∧ Aside0 (kq ≤ k) ∧ Drawn0 w w')
 case atStart => exact ⟨(0),(0),(by rfl),(by rfl),H',⟨Nat.le_refl _⟩,by repeat (exact Drawn0.refl _)⟩
 case round =>
  clear H'
  obtain ⟨x3_1,x4_1,rfl,rfl,HA,HK1,⟨m1,rfl⟩⟩ := hrel
  cases gk with
  | zero => exact absurd HA.out (by simp [spec_l2Check.l0])
  | succ k1 =>
   have H:=HA.out
   clear HA
   simp only [spec_l2Check.l0] at H
   by_cases c2 : x4_1 < 7
   ·rw [if_pos c2] at H
    have c2b0 : decide (x4_1 < 7) = true:=decide_eq_true c2
    clear c2
    by_cases c3 : 0 ≤ x4_1
    ·rw [if_pos c3] at H
     have c3b0 : decide (0 ≤ x4_1) = true:=decide_eq_true c3
     clear c3
     by_cases c4 : x4_1 < (a0.size : Int)
     ·rw [if_pos c4] at H
      have c4b0 : decide (x4_1 < (a0.size : Int)) = true:=decide_eq_true c4
      clear c4
      by_cases c6 : x4_1 < 3
      ·rw [if_pos c6] at H
       have c6b0 : decide (x4_1 < 3) = true:=decide_eq_true c6
       clear c6
       have H':=Aside0.mk H
       clear H
       have p5 : 0 ≤ (x4_1 : Int):=of_decide_eq_true (by (with_reducible assumption))
       have q5 : x4_1 < (a0.size : Int):=of_decide_eq_true (by (with_reducible assumption))
       have hx5:=bt_at a0 x4_1
       replace p5:=eq_true p5
       replace q5:=eq_true q5
       have p7 : 0 ≤ (x4_1 : Int):=of_decide_eq_true (by (with_reducible assumption))
       have q7 : x4_1 < (a0.size : Int):=of_decide_eq_true (by (with_reducible assumption))
       have hx7:=bt_at a0 x4_1
       replace p7:=eq_true p7
       replace q7:=eq_true q7
       go_wp2
       go_roundg k1
       case measure => have:=HK1.out;omega
       case rel => exact ⟨(wrap64 (x3_1 + (wrap64 ((wrap64 ((wrap64 ((wrap64 (bt a0 x4_1)) - 65)) + 1)) * (wrap64 (x4_1 + 2)))))),(wrap64 (x4_1 + 1)),(by rfl),(by rfl),H',⟨by have:=HK1.out;omega⟩,by repeat (first | exact Drawn0.refl _ | apply Drawn0.step)⟩
      ·rw [if_neg c6] at H
       have c6b0 : decide (x4_1 < 3) = false:=decide_eq_false c6
       clear c6
       have H':=Aside0.mk H
       clear H
       have p5 : 0 ≤ (x4_1 : Int):=of_decide_eq_true (by (with_reducible assumption))
       have q5 : x4_1 < (a0.size : Int):=of_decide_eq_true (by (with_reducible assumption))
       have hx5:=bt_at a0 x4_1
       replace p5:=eq_true p5
       replace q5:=eq_true q5
       go_wp2
       go_roundg k1
       case measure => have:=HK1.out;omega
       case rel => exact ⟨(wrap64 (x3_1 + (wrap64 ((wrap64 ((wrap64 (bt a0 x4_1)) - 48)) * (wrap64 (x4_1 + 2)))))),(wrap64 (x4_1 + 1)),(by rfl),(by rfl),H',⟨by have:=HK1.out;omega⟩,by repeat (first | exact Drawn0.refl _ | apply Drawn0.step)⟩
     ·rw [if_neg c4] at H
      exact absurd H (by simp)
    ·rw [if_neg c3] at H
     exact absurd H (by simp)
   ·rw [if_neg c2] at H
    have c2b0 : decide (x4_1 < 7) = false:=decide_eq_false c2
    clear c2
    obtain rfl:=Option.some.inj H
    go_wp2
    go_ret
    exact ⟨by rfl,by repeat (first | exact Drawn0.refl _ | apply Drawn0.step)⟩

/-! ### spec_l1Cur_of: function 57 -/
def spec_l1Cur_of.f (s0_0 : List Int) (s0_1 : Int) (s0_2 : Int) (l1 : List ByteArray) : Option (ByteArray × Int × Int):=(spec_l1Cur_pick.f s0_0 s0_1 s0_2 (l1.length : Int)).bind fun bt110 => (if 0 ≤ bt110.1 then (if bt110.1 < (l1.length : Int) then (some (rdOf ByteArray.empty l1 bt110.1,bt110.2.1,bt110.2.2)) else (none)) else (none))
set_option maxHeartbeats 8000000 in
set_option maxRecDepth 100000 in
theorem spec_l1Cur_of.calls (g : Nat) (s0_0 : List Int) (s0_1 : Int) (s0_2 : Int) (A1 : Option Addr) (c1 : Nat) (l1 : List ByteArray) (r1 : ByteArray) (r2 : Int) (r3 : Int) (w0 w : World) (hI : IsS61 w0 w g s0_0 s0_1 s0_2) (hB : Below w0.heap.size w0 w) (hr1 : Kd.C Kd.string w A1 l1.length l1) (hc1 : l1.length ≤ c1) (hf1 : ∀ ad,A1 = some ad → 0 < l1.length → ad.block ≠ g) (h : spec_l1Cur_of.f s0_0 s0_1 s0_2 l1 = some (r1,r2,r3)) :
  Calls Try.prog 57 #[.pointer (some ⟨g,0,none⟩), .slice A1 l1.length c1] w fun e w' => e = .returned (.string r1) ∧ IsS61 w0 w' g s0_0 r2 r3 ∧ Below w0.heap.size w0 w' ∧ KeepBut w w' g none:=by
 have HR1:=Aside0.mk hr1
 have HC1:=Aside0.mk hc1
 clear hr1 hc1
 have HI0:=Aside0.mk hI
 have HK:=Aside0.mk (KeepBut.refl w g none)
 have HL:=Aside0.mk hB.size
 clear hI
 have HW0:=Aside0.mk hB.size
 have HB:=Aside0.mk hB
 clear hB
 have H : ((spec_l1Cur_pick.f s0_0 s0_1 s0_2 (l1.length : Int)).bind fun bt110 => (if 0 ≤ bt110.1 then (if bt110.1 < (l1.length : Int) then (some (rdOf ByteArray.empty l1 bt110.1,bt110.2.1,bt110.2.2)) else (none)) else (none))) = some (r1,r2,r3):=h
 clear h
 replace H:=Option.bind_eq_some_iff.mp H
 obtain ⟨⟨t110,t111,t112⟩,A30,H⟩ := H
 replace H : (if 0 ≤ t110 then (if t110 < (l1.length : Int) then (some (rdOf ByteArray.empty l1 t110,t111,t112)) else (none)) else (none)) = some (r1,r2,r3):=H
 have A3:=Aside0.mk A30
 clear A30
 by_cases c4 : 0 ≤ t110
 ·rw [if_pos c4] at H
  have c4b0 : decide (0 ≤ t110) = true:=decide_eq_true c4
  clear c4
  by_cases c5 : t110 < (l1.length : Int)
  ·rw [if_pos c5] at H
   have c5b0 : decide (t110 < (l1.length : Int)) = true:=decide_eq_true c5
   clear c5
   simp only [Option.some.injEq,Prod.mk.injEq] at H
   obtain ⟨rfl,rfl,rfl⟩ := H
   go_enter Try.func57,Try.ntmps57
   go_wp2_with (((with_reducible refine gate_callee (f:=45) rfl ?_);refine goesL_ (some 9) rfl rfl Try.func45 (by kernel_rfl) rfl #[.pointer (some ⟨g,0,none⟩), .int .i64 (l1.length : Int)] rfl (by (try simp only [List.map_toArray,List.map_cons,List.map_nil]);rfl) ?_;(with_reducible refine (spec_l1Cur_pick.calls g s0_0 s0_1 s0_2 (l1.length : Int) t110 t111 t112 w0 _ ?side1 ?side2 A3.out).mono ?_);(case side1 => exact HI0.out);(case side2 => exact HB.out);rintro e w6 ⟨rfl,hi,hb,hk⟩;refine ⟨_,rfl, ?_⟩;have n0_:=Aside0.mk (KeepBut.trans (by exact HK.out) hk (.inl rfl));have n1_:=Aside0.mk (hb);have n2_:=Aside0.mk (hi);clear HK;clear HB;clear HI0;have HK:=n0_;have HB:=n1_;have HI0:=n2_;clear n0_ n1_ n2_;(try clear hb);(try clear hk);(try clear hi);have p113 : 0 ≤ (t110 : Int):=of_decide_eq_true (by (with_reducible assumption));have q113 : t110 < (l1.length : Int):=of_decide_eq_true (by (with_reducible assumption));obtain ⟨ad113,e113,hx113_0⟩ := Kd.at_string HR1.out t110 p113 q113;cases e113;replace hx113_0:=keep_cell HK.out hx113_0 (by (rw [add_block];exact hf1 _ rfl (by omega)));replace p113:=eq_true p113;replace q113:=eq_true q113))
   go_ret
   exact ⟨by rfl,by exact HI0.out,by exact HB.out,by exact HK.out⟩
  ·rw [if_neg c5] at H
   exact absurd H (by simp)
 ·rw [if_neg c4] at H
  exact absurd H (by simp)

/-! ### spec_l1Cur_id20: function 54 -/
def spec_l1Cur_id20.f (k : Nat) (s0_0 : List Int) (s0_1 : Int) (s0_2 : Int) : Option (ByteArray × Int × Int):=(spec_l1Cur_of.f s0_0 s0_1 s0_2 (([(⟨#[65,66,67,48,48,48,49]⟩ : ByteArray),(⟨#[65,66,67,48,48,48,50]⟩ : ByteArray),(⟨#[88,89,90,49,50,51,52]⟩ : ByteArray)] : List ByteArray))).bind fun bt117 => ((spec_l2Check.f k bt117.1).bind fun t120 => ((some (([t120] : List Int) : List Int)).bind fun y121 => (if bt117.1.size + (strOfNums y121).size ≤ 9223372036854775807 then (some (bt117.1 ++ (strOfNums y121),bt117.2.1,bt117.2.2)) else (none))))
theorem spec_l1Cur_id20.mono : ∀ a0 a1 a2 k,LeO (spec_l1Cur_id20.f k a0 a1 a2) (spec_l1Cur_id20.f (k + 1) a0 a1 a2):=by
 intro a0 a1 a2 k
 unfold spec_l1Cur_id20.f
 repeat' first
   | (with_reducible exact spec_l2Check.mono _ _)
   | (with_reducible exact LeO.refl _)
   | (with_reducible exact LeO.none _)
   | (with_reducible refine LeO.ite ?_ ?_)
   | (with_reducible refine LeO.bind ?_ (fun _ => ?_))
   | exact spec_l2Check.mono _ _
   | exact LeO.none _
   | refine LeO.ite ?_ ?_
   | refine LeO.bind ?_ (fun _ => ?_)
set_option maxHeartbeats 8000000 in
set_option maxRecDepth 100000 in
theorem spec_l1Cur_id20.calls (k : Nat) (g : Nat) (s0_0 : List Int) (s0_1 : Int) (s0_2 : Int) (r1 : ByteArray) (r2 : Int) (r3 : Int) (w0 w : World) (hI : IsS61 w0 w g s0_0 s0_1 s0_2) (hB : Below w0.heap.size w0 w) (h : spec_l1Cur_id20.f k s0_0 s0_1 s0_2 = some (r1,r2,r3)) :
  Calls Try.prog 54 #[.pointer (some ⟨g,0,none⟩)] w fun e w' => e = .returned (.string r1) ∧ IsS61 w0 w' g s0_0 r2 r3 ∧ Below w0.heap.size w0 w' ∧ KeepBut w w' g none:=by
 have HI0:=Aside0.mk hI
 have HK:=Aside0.mk (KeepBut.refl w g none)
 have HL:=Aside0.mk hB.size
 clear hI
 have HW0:=Aside0.mk hB.size
 have HB:=Aside0.mk hB
 clear hB
 have H : ((spec_l1Cur_of.f s0_0 s0_1 s0_2 (([(⟨#[65,66,67,48,48,48,49]⟩ : ByteArray),(⟨#[65,66,67,48,48,48,50]⟩ : ByteArray),(⟨#[88,89,90,49,50,51,52]⟩ : ByteArray)] : List ByteArray))).bind fun bt117 => ((spec_l2Check.f k bt117.1).bind fun t120 => ((some (([t120] : List Int) : List Int)).bind fun y121 => (if bt117.1.size + (strOfNums y121).size ≤ 9223372036854775807 then (some (bt117.1 ++ (strOfNums y121),bt117.2.1,bt117.2.2)) else (none))))) = some (r1,r2,r3):=h
 clear h
 obtain ⟨y114,hy114⟩ : ∃ y_ : List ByteArray,y_ = (([(⟨#[65,66,67,48,48,48,49]⟩ : ByteArray),(⟨#[65,66,67,48,48,48,50]⟩ : ByteArray),(⟨#[88,89,90,49,50,51,52]⟩ : ByteArray)] : List ByteArray)):=⟨_,rfl⟩
 replace H : ((spec_l1Cur_of.f s0_0 s0_1 s0_2 y114).bind fun bt117 => ((spec_l2Check.f k bt117.1).bind fun t120 => ((some (([t120] : List Int) : List Int)).bind fun y121 => (if bt117.1.size + (strOfNums y121).size ≤ 9223372036854775807 then (some (bt117.1 ++ (strOfNums y121),bt117.2.1,bt117.2.2)) else (none))))) = some (r1,r2,r3):=by (rw [hy114];with_reducible exact H)
 have Ny114:=Aside0.mk hy114
 clear hy114
 replace H:=Option.bind_eq_some_iff.mp H
 obtain ⟨⟨t117,t118,t119⟩,A20,H⟩ := H
 replace H : ((spec_l2Check.f k t117).bind fun t120 => ((some (([t120] : List Int) : List Int)).bind fun y121 => (if t117.size + (strOfNums y121).size ≤ 9223372036854775807 then (some (t117 ++ (strOfNums y121),t118,t119)) else (none)))) = some (r1,r2,r3):=H
 have A2:=Aside0.mk A20
 clear A20
 replace H:=Option.bind_eq_some_iff.mp H
 obtain ⟨t120,A30,H⟩ := H
 replace H : ((some (([t120] : List Int) : List Int)).bind fun y121 => (if t117.size + (strOfNums y121).size ≤ 9223372036854775807 then (some (t117 ++ (strOfNums y121),t118,t119)) else (none))) = some (r1,r2,r3):=H
 have A3:=Aside0.mk A30
 clear A30
 obtain ⟨y121,hy121⟩ : ∃ y_ : List Int,y_ = (([t120] : List Int)):=⟨_,rfl⟩
 replace H : (if t117.size + (strOfNums y121).size ≤ 9223372036854775807 then (some (t117 ++ (strOfNums y121),t118,t119)) else (none)) = some (r1,r2,r3):=by (have H2_:=(Option.bind_some _ _).symm.trans H;rw [hy121];with_reducible exact H2_)
 have Ny121:=Aside0.mk hy121
 clear hy121
 by_cases c4 : t117.size + (strOfNums y121).size ≤ 9223372036854775807
 ·rw [if_pos c4] at H
  have c4b0:=eq_true c4
  have c4b1 : decide (t117.size + (strOfNums y121).size ≤ 9223372036854775807) = true:=decide_eq_true c4
  try have c4b2 : (9223372036854775807 < t117.size + (strOfNums y121).size) = False:=eq_false (Nat.not_lt.2 c4)
  simp only [Option.some.injEq,Prod.mk.injEq] at H
  obtain ⟨rfl,rfl,rfl⟩ := H
  go_enter Try.func54,Try.ntmps54
  go_wp2_with (first | ((with_reducible refine gate_dst (N:=5) rfl ?_);refine Kd.R_lit Kd.string _ 9 ?hg (N:=5) ?hd (xs:=([(⟨#[65,66,67,48,48,48,49]⟩ : ByteArray),(⟨#[65,66,67,48,48,48,50]⟩ : ByteArray),(⟨#[88,89,90,49,50,51,52]⟩ : ByteArray)] : List ByteArray)) (inner := [.string (⟨#[65,66,67,48,48,48,49]⟩ : ByteArray), .string (⟨#[65,66,67,48,48,48,50]⟩ : ByteArray), .string (⟨#[88,89,90,49,50,51,52]⟩ : ByteArray)]) (ok:=fun _ => True) (okp:=fun _ => True) ?hr ?hp (fun _ hk => hk) trivial (Below.refl _ _) (Nat.le_refl _) (by simp) ?_;(case hd => rfl);(case hg => rfl);(case hr => (go_simp;done));(case hp => exact (Reps.one (show Kd.M Kd.string _ _ _ (⟨#[65,66,67,48,48,48,49]⟩ : ByteArray) [.string (⟨#[65,66,67,48,48,48,49]⟩ : ByteArray)] from rfl) (Reps.one (show Kd.M Kd.string _ _ _ (⟨#[65,66,67,48,48,48,50]⟩ : ByteArray) [.string (⟨#[65,66,67,48,48,48,50]⟩ : ByteArray)] from rfl) (Reps.one (show Kd.M Kd.string _ _ _ (⟨#[88,89,90,49,50,51,52]⟩ : ByteArray) [.string (⟨#[88,89,90,49,50,51,52]⟩ : ByteArray)] from rfl) (Reps.none _ _)))));intro v115 w5 ho6 hb hg_ hnew_;clear hg_ hnew_;(rw [← Ny114.out] at ho6);have n0_:=Aside0.mk (Kd.R_lower ho6 (keep_size (w:=w) (g:=g) (row:=none) (by exact HK.out)));have n1_:=Aside0.mk (IsS61.below (by exact HI0.out) hb);have n2_:=Aside0.mk (KeepBut.trans (by exact HK.out) (KeepBut.of_below hb g none) (.inl rfl));have n3_:=Aside0.mk (below_step (by exact HB.out) hb);clear HI0;clear HK;clear HB;have HO116:=n0_;have HI0:=n1_;have HK:=n2_;have HB:=n3_;clear n0_ n1_ n2_ n3_;clear hb ho6;obtain ⟨Ao7,co7,eo7⟩ := Kd.R_slice HO116.out;subst eo7) | ((with_reducible refine gate_callee (f:=57) rfl ?_);refine goesL_ (some 6) rfl rfl Try.func57 (by kernel_rfl) rfl #[.pointer (some ⟨g,0,none⟩), .slice Ao7 y114.length co7] rfl (by (try simp only [List.map_toArray,List.map_cons,List.map_nil]);rfl) ?_;(with_reducible refine (spec_l1Cur_of.calls g s0_0 s0_1 s0_2 _ _ y114 t117 t118 t119 w0 _ ?side1 ?side2 ?side3 ?side4 ?side5 A2.out).mono ?_);(case side1 => exact HI0.out);(case side2 => exact HB.out);(case side3 => repeat (exact (Kd.R_reads' HO116.out).2.2));(case side4 => exact (Kd.R_reads' HO116.out).2.1);(case side5 => exact far_slice (IsS61.own_ne HI0.out HO116.out (by decide)));rintro e w8 ⟨rfl,hi,hb,hk⟩;refine ⟨_,rfl, ?_⟩;have n0_:=Aside0.mk (Kd.R_mono (Kd.R_keep (IsS61.apart (show IsS61 w0 _ g s0_0 s0_1 s0_2 from by exact HI0.out) (by exact HO116.out) (by decide)) hk (fun _ h => h.2)) (fun _ h => h.1));have n1_:=Aside0.mk (KeepBut.trans (by exact HK.out) hk (.inl rfl));have n2_:=Aside0.mk (hb);have n3_:=Aside0.mk (hi);clear HO116;clear HK;clear HB;clear HI0;have HO116:=n0_;have HK:=n1_;have HB:=n2_;have HI0:=n3_;clear n0_ n1_ n2_ n3_;(try clear hb);(try clear hk);(try clear hi)) | ((with_reducible refine gate_callee (f:=53) rfl ?_);refine goesL_ (some 9) rfl rfl Try.func53 (by kernel_rfl) rfl #[.string t117] rfl (by (try simp only [List.map_toArray,List.map_cons,List.map_nil]);rfl) ?_;(with_reducible refine (spec_l2Check.calls k t117 t120 _ A3.out).mono ?_);rintro e w' ⟨rfl,⟨nd,rfl⟩⟩;refine ⟨_,rfl, ?_⟩) | ((with_reducible refine gate_dst (N:=10) rfl ?_);refine Kd.R_lit (Kd.int .u8) _ 5 ?hg (N:=10) ?hd (xs:=([t120] : List Int)) (inner := [.int .u8 t120]) (ok:=fun _ => True) (okp:=fun _ => True) ?hr ?hp (fun _ hk => hk) trivial (Below.refl _ _) (Nat.le_refl _) (by simp) ?_;(case hd => rfl);(case hg => rfl);(case hr => (go_simp;done));(case hp => exact (Reps.one (show Kd.M (Kd.int .u8) _ _ _ t120 [.int .u8 t120] from rfl) (Reps.none _ _)));intro v122 w9 ho10 hb hg_ hnew_;clear hg_ hnew_;(rw [← Ny121.out] at ho10);have n0_:=Aside0.mk (Kd.R_below (by (with_reducible repeat (apply Kd.R_drewN));exact HO116.out) hb);have n1_:=Aside0.mk (Kd.R_lower ho10 (keep_size (w:=w) (g:=g) (row:=none) (by repeat ((with_reducible first | exact HK.out | apply keep_drewN)))));have n2_:=Aside0.mk (IsS61.below (by repeat ((with_reducible first | exact HI0.out | apply IsS61.drewN))) hb);have n3_:=Aside0.mk (KeepBut.trans (by repeat ((with_reducible first | exact HK.out | apply keep_drewN))) (KeepBut.of_below hb g none) (.inl rfl));have n4_:=Aside0.mk (below_step (by repeat ((with_reducible first | exact HB.out | apply pw_below_drewN))) hb);clear HO116;clear HI0;clear HK;clear HB;have HO116:=n0_;have HO123:=n1_;have HI0:=n2_;have HK:=n3_;have HB:=n4_;clear n0_ n1_ n2_ n3_ n4_;clear hb ho10;have hcv11:=own_string (P:=Try.prog) Try.underlying22 Try.underlying5 Try.underlying9 (Kd.own_of_R HO123.out)))
  go_ret
  exact ⟨by rfl,by exact HI0.out,by exact HB.out,by exact HK.out⟩
 ·rw [if_neg c4] at H
  exact absurd H (by simp)

/-! ### spec_l1Cur_one: function 55 -/
def spec_l1Cur_one.f (s0_0 : List Int) (s0_1 : Int) (s0_2 : Int) (a1 : Int) : Option (Bool × Int × Int):=(spec_l1Cur_pick.f s0_0 s0_1 s0_2 a1).bind fun bt124 => (some ((bt124.1 == 0),bt124.2.1,bt124.2.2))
set_option maxHeartbeats 8000000 in
set_option maxRecDepth 100000 in
theorem spec_l1Cur_one.calls (g : Nat) (s0_0 : List Int) (s0_1 : Int) (s0_2 : Int) (a1 : Int) (r1 : Bool) (r2 : Int) (r3 : Int) (w0 w : World) (hI : IsS61 w0 w g s0_0 s0_1 s0_2) (hB : Below w0.heap.size w0 w) (h : spec_l1Cur_one.f s0_0 s0_1 s0_2 a1 = some (r1,r2,r3)) :
  Calls Try.prog 55 #[.pointer (some ⟨g,0,none⟩), .int .i64 a1] w fun e w' => e = .returned (.bool r1) ∧ IsS61 w0 w' g s0_0 r2 r3 ∧ Below w0.heap.size w0 w' ∧ KeepBut w w' g none:=by
 have HI0:=Aside0.mk hI
 have HK:=Aside0.mk (KeepBut.refl w g none)
 have HL:=Aside0.mk hB.size
 clear hI
 have HW0:=Aside0.mk hB.size
 have HB:=Aside0.mk hB
 clear hB
 have H : ((spec_l1Cur_pick.f s0_0 s0_1 s0_2 a1).bind fun bt124 => (some ((bt124.1 == 0),bt124.2.1,bt124.2.2))) = some (r1,r2,r3):=h
 clear h
 replace H:=Option.bind_eq_some_iff.mp H
 obtain ⟨⟨t124,t125,t126⟩,A30,H⟩ := H
 replace H : (some ((t124 == 0),t125,t126)) = some (r1,r2,r3):=H
 have A3:=Aside0.mk A30
 clear A30
 simp only [Option.some.injEq,Prod.mk.injEq] at H
 obtain ⟨rfl,rfl,rfl⟩ := H
 go_enter Try.func55,Try.ntmps55
 go_wp2_with (((with_reducible refine gate_callee (f:=45) rfl ?_);refine goesL_ (some 7) rfl rfl Try.func45 (by kernel_rfl) rfl #[.pointer (some ⟨g,0,none⟩), .int .i64 a1] rfl (by (try simp only [List.map_toArray,List.map_cons,List.map_nil]);rfl) ?_;(with_reducible refine (spec_l1Cur_pick.calls g s0_0 s0_1 s0_2 a1 t124 t125 t126 w0 _ ?side1 ?side2 A3.out).mono ?_);(case side1 => exact HI0.out);(case side2 => exact HB.out);rintro e w4 ⟨rfl,hi,hb,hk⟩;refine ⟨_,rfl, ?_⟩;have n0_:=Aside0.mk (KeepBut.trans (by exact HK.out) hk (.inl rfl));have n1_:=Aside0.mk (hb);have n2_:=Aside0.mk (hi);clear HK;clear HB;clear HI0;have HK:=n0_;have HB:=n1_;have HI0:=n2_;clear n0_ n1_ n2_;(try clear hb);(try clear hk);(try clear hi)))
 go_ret
 exact ⟨by rfl,by exact HI0.out,by exact HB.out,by exact HK.out⟩

/-! ### spec_l1Cur_among: function 56 -/
def spec_l1Cur_among.f (s0_0 : List Int) (s0_1 : Int) (s0_2 : Int) (l1 : List Int) : Option (Int × Int × Int):=(spec_l1Cur_pick.f s0_0 s0_1 s0_2 (l1.length : Int)).bind fun bt127 => (if 0 ≤ bt127.1 then (if bt127.1 < (l1.length : Int) then (some (rd l1 bt127.1,bt127.2.1,bt127.2.2)) else (none)) else (none))
set_option maxHeartbeats 8000000 in
set_option maxRecDepth 100000 in
theorem spec_l1Cur_among.calls (g : Nat) (s0_0 : List Int) (s0_1 : Int) (s0_2 : Int) (A1 : Option Addr) (c1 : Nat) (l1 : List Int) (r1 : Int) (r2 : Int) (r3 : Int) (w0 w : World) (hI : IsS61 w0 w g s0_0 s0_1 s0_2) (hB : Below w0.heap.size w0 w) (hr1 : Kd.C (Kd.int .i64) w A1 l1.length l1) (hc1 : l1.length ≤ c1) (hf1 : ∀ ad,A1 = some ad → 0 < l1.length → ad.block ≠ g) (h : spec_l1Cur_among.f s0_0 s0_1 s0_2 l1 = some (r1,r2,r3)) :
  Calls Try.prog 56 #[.pointer (some ⟨g,0,none⟩), .slice A1 l1.length c1] w fun e w' => e = .returned (.int .i64 r1) ∧ IsS61 w0 w' g s0_0 r2 r3 ∧ Below w0.heap.size w0 w' ∧ KeepBut w w' g none:=by
 have HR1:=Aside0.mk hr1
 have HC1:=Aside0.mk hc1
 clear hr1 hc1
 have HI0:=Aside0.mk hI
 have HK:=Aside0.mk (KeepBut.refl w g none)
 have HL:=Aside0.mk hB.size
 clear hI
 have HW0:=Aside0.mk hB.size
 have HB:=Aside0.mk hB
 clear hB
 have H : ((spec_l1Cur_pick.f s0_0 s0_1 s0_2 (l1.length : Int)).bind fun bt127 => (if 0 ≤ bt127.1 then (if bt127.1 < (l1.length : Int) then (some (rd l1 bt127.1,bt127.2.1,bt127.2.2)) else (none)) else (none))) = some (r1,r2,r3):=h
 clear h
 replace H:=Option.bind_eq_some_iff.mp H
 obtain ⟨⟨t127,t128,t129⟩,A30,H⟩ := H
 replace H : (if 0 ≤ t127 then (if t127 < (l1.length : Int) then (some (rd l1 t127,t128,t129)) else (none)) else (none)) = some (r1,r2,r3):=H
 have A3:=Aside0.mk A30
 clear A30
 by_cases c4 : 0 ≤ t127
 ·rw [if_pos c4] at H
  have c4b0 : decide (0 ≤ t127) = true:=decide_eq_true c4
  clear c4
  by_cases c5 : t127 < (l1.length : Int)
  ·rw [if_pos c5] at H
   have c5b0 : decide (t127 < (l1.length : Int)) = true:=decide_eq_true c5
   clear c5
   simp only [Option.some.injEq,Prod.mk.injEq] at H
   obtain ⟨rfl,rfl,rfl⟩ := H
   go_enter Try.func56,Try.ntmps56
   go_wp2_with (((with_reducible refine gate_callee (f:=45) rfl ?_);refine goesL_ (some 9) rfl rfl Try.func45 (by kernel_rfl) rfl #[.pointer (some ⟨g,0,none⟩), .int .i64 (l1.length : Int)] rfl (by (try simp only [List.map_toArray,List.map_cons,List.map_nil]);rfl) ?_;(with_reducible refine (spec_l1Cur_pick.calls g s0_0 s0_1 s0_2 (l1.length : Int) t127 t128 t129 w0 _ ?side1 ?side2 A3.out).mono ?_);(case side1 => exact HI0.out);(case side2 => exact HB.out);rintro e w6 ⟨rfl,hi,hb,hk⟩;refine ⟨_,rfl, ?_⟩;have n0_:=Aside0.mk (KeepBut.trans (by exact HK.out) hk (.inl rfl));have n1_:=Aside0.mk (hb);have n2_:=Aside0.mk (hi);clear HK;clear HB;clear HI0;have HK:=n0_;have HB:=n1_;have HI0:=n2_;clear n0_ n1_ n2_;(try clear hb);(try clear hk);(try clear hi);have p130 : 0 ≤ (t127 : Int):=of_decide_eq_true (by (with_reducible assumption));have q130 : t127 < (l1.length : Int):=of_decide_eq_true (by (with_reducible assumption));obtain ⟨ad130,e130,hx130_0⟩ := Kd.at_int HR1.out t127 p130 q130;cases e130;replace hx130_0:=keep_cell HK.out hx130_0 (by (rw [add_block];exact hf1 _ rfl (by omega)));replace p130:=eq_true p130;replace q130:=eq_true q130))
   go_ret
   exact ⟨by rfl,by exact HI0.out,by exact HB.out,by exact HK.out⟩
  ·rw [if_neg c5] at H
   exact absurd H (by simp)
 ·rw [if_neg c4] at H
  exact absurd H (by simp)

end Go.Proofs.Yteebkbikpamkmaa.PFnHolds
