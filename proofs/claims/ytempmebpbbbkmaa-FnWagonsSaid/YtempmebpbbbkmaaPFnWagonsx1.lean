-- Written by a program of this session, over the kit's print (wip/xprint.py)
import Derived.Test.YtempmebpbbbkmaaPFnWagonsx0
namespace Go.Proofs.Ytempmebpbbbkmaa.PFnWagons
open Go.RowKit Go.Proofs.YtempmebpbbbkmaaW.PrintWords Go.Proofs.YtempmebpbbbkmaaW.PrintLast Go.Proofs.YtempmebpbbbkmaaW.PrintMore
attribute [local go_sem] max2_int min2_int max_two min_two max_three min_three max_four min_four   -- for this text's walks alone
set_option linter.unusedVariables false
set_option linter.unusedSimpArgs false

/-! ### laws_rBig: function 4 -/
def laws_rBig.f (l0 : List Int) : Option (Bool):=some (decide ((l0.length : Int) > 65536))
set_option maxHeartbeats 8000000 in
set_option maxRecDepth 100000 in
theorem laws_rBig.calls (A0 : Option Addr) (c0 : Nat) (l0 : List Int) (r : Bool) (w : World) (hr0 : Kd.C (Kd.int .u8) w A0 l0.length l0) (hc0 : l0.length ≤ c0) (h : laws_rBig.f l0 = some r) :
  Calls Try.prog 4 #[.slice A0 l0.length c0] w fun e w' => e = .returned (.bool r) ∧ Drawn0 w w':=by
 have HR0:=Aside0.mk hr0
 have HC0:=Aside0.mk hc0
 clear hr0 hc0
 have H : (some (decide ((l0.length : Int) > 65536))) = some r:=h
 clear h
 obtain rfl:=Option.some.inj H
 go_enter Try.func4,Try.ntmps4
 go_wp2
 go_ret
 exact ⟨by rfl,by repeat (exact Drawn0.refl _)⟩

/-- A state of type 46 at block g of W;what its slices lead to came in by w0. -/
def IsS46 (w0 W : World) (g : Nat) (f0 : List Int) (f1 : Int) (f2 : Int) : Prop := ∃ A0 c0,W.heap[g]? = some (.cells #[.slice A0 f0.length c0, .int .i64 f1, .int .u64 f2] 46 (0,0)) ∧ w0.heap.size ≤ g ∧ Kd.C (Kd.int .u8) w0 A0 f0.length f0
theorem IsS46.grown {w0 W : World} {g : Nat} {f0 : List Int} {f1 : Int} {f2 : Int} {W1 : World} {row : Option Nat} (h : IsS46 w0 W g f0 f1 f2) (hw : W.grownBy W1 row) (hne : some g ≠ row) : IsS46 w0 W1 g f0 f1 f2:=by
 obtain ⟨A0,c0,hb,hg,hr0⟩ := h
 exact ⟨A0,c0,blk_grown hb hw hne,hg,hr0⟩
theorem IsS46.own_neN {w0 W : World} {g : Nat} {f0 : List Int} {f1 : Int} {f2 : Int} {α : Type} {d : Kd α} {e : Nat} {base : Nat} {ok : Nat → Prop} {v : Value} {xs : List α} (h : IsS46 w0 W g f0 f1 f2) (ho : Kd.N d e W base ok v xs) (ht : e ≠ 46) : some g ≠ v.ownBlock:=by
 obtain ⟨A0,c0,hb,hg,hr0⟩ := h
 exact Kd.N_ne ho hb ht
theorem IsS46.fresh {w0 W : World} {g : Nat} {f0 : List Int} {f1 : Int} {f2 : Int} (h : IsS46 w0 W g f0 f1 f2) : ∀ k,W.heap.size ≤ k → k ≠ g:=by
 obtain ⟨A0,c0,hb,hg,hr0⟩ := h
 exact Kd.freshB hb
theorem IsS46.kept {w0 W : World} {g : Nat} {f0 : List Int} {f1 : Int} {f2 : Int} {W1 : World} {S : Nat → Prop} (h : IsS46 w0 W g f0 f1 f2) (hk : Kept W W1 S) (hne : ¬ S g) : IsS46 w0 W1 g f0 f1 f2:=by
 obtain ⟨A0,c0,hb,hg,hr0⟩ := h
 exact ⟨A0,c0,blk_kept hb hk hne,hg,hr0⟩
theorem IsS46.below {w0 W : World} {g : Nat} {f0 : List Int} {f1 : Int} {f2 : Int} {W1 : World} (h : IsS46 w0 W g f0 f1 f2) (hw : Below W.heap.size W W1) : IsS46 w0 W1 g f0 f1 f2:=h.grown (grown_of_below hw none) (by simp)
theorem IsS46.alloc {w0 W : World} {g : Nat} {f0 : List Int} {f1 : Int} {f2 : Int} (h : IsS46 w0 W g f0 f1 f2) (o : Obj) : IsS46 w0 (W.alloc o) g f0 f1 f2:=h.below (below_alloc (Below.refl _ _) o)
theorem IsS46.drewN {w0 W : World} {g : Nat} {f0 : List Int} {f1 : Int} {f2 : Int} (h : IsS46 w0 W g f0 f1 f2) (m : Nat) : IsS46 w0 (W.drewN m) g f0 f1 f2:=h
theorem IsS46.drew {w0 W : World} {g : Nat} {f0 : List Int} {f1 : Int} {f2 : Int} (h : IsS46 w0 W g f0 f1 f2) : IsS46 w0 W.drew g f0 f1 f2:=h
theorem IsS46.at_ {w0 W : World} {g : Nat} {f0 : List Int} {f1 : Int} {f2 : Int} {w' : World} {m : Nat} (hq : W.drewN m = w') (h : IsS46 w0 W g f0 f1 f2) : IsS46 w0 w' g f0 f1 f2:=by subst hq;exact IsS46.drewN h m
theorem IsS46.apart {w0 W : World} {g : Nat} {f0 : List Int} {f1 : Int} {f2 : Int} {α : Type} {d : Kd α} {e : Nat} {base : Nat} {ok : Nat → Prop} {v : Value} {xs : List α} (h : IsS46 w0 W g f0 f1 f2) (ho : d.R e W base ok v xs) (ht : ∀ q,q ∈ e :: d.E → q ≠ 46) : d.R e W base (fun k => ok k ∧ k ≠ g) v xs:=by
 obtain ⟨A0,c0,hb,hg,hr0⟩ := h
 exact Kd.R_types ho hb ht
theorem IsS46.own_ne {w0 W : World} {g : Nat} {f0 : List Int} {f1 : Int} {f2 : Int} {α : Type} {d : Kd α} {e : Nat} {base : Nat} {ok : Nat → Prop} {v : Value} {xs : List α} (h : IsS46 w0 W g f0 f1 f2) (ho : d.R e W base ok v xs) (ht : e ≠ 46) : some g ≠ v.ownBlock:=by
 obtain ⟨A0,c0,hb,hg,hr0⟩ := h
 exact Kd.R_ne ho hb ht
theorem IsS46.apartQ {w0 W : World} {g : Nat} {f0 : List Int} {f1 : Int} {f2 : Int} {α : Type} {d : Kd α} {e : Nat} {base : Nat} {ok : Nat → Prop} {v : Value} {xs : List α} (h : IsS46 w0 W g f0 f1 f2) (ho : d.Q e W base ok v xs) (ht : ∀ q,q ∈ e :: d.E → q ≠ 46) : d.Q e W base (fun k => ok k ∧ k ≠ g) v xs:=by
 obtain ⟨A0,c0,hb,hg,hr0⟩ := h
 exact Kd.Q_types ho hb ht
theorem IsS46.own_neQ {w0 W : World} {g : Nat} {f0 : List Int} {f1 : Int} {f2 : Int} {α : Type} {d : Kd α} {e : Nat} {base : Nat} {ok : Nat → Prop} {v : Value} {xs : List α} (h : IsS46 w0 W g f0 f1 f2) (ho : d.Q e W base ok v xs) (ht : e ≠ 46) : some g ≠ v.ownBlock:=by
 obtain ⟨A0,c0,hb,hg,hr0⟩ := h
 exact Kd.Q_ne ho hb ht
theorem IsS46.apartS {w0 W : World} {g : Nat} {f0 : List Int} {f1 : Int} {f2 : Int} {α : Type} {d : Kd α} {e : Nat} {base : Nat} {ok : Nat → Prop} {v : Value} {xs : List α} (h : IsS46 w0 W g f0 f1 f2) (ho : d.S e W base ok v xs) (ht : ∀ q,q ∈ e :: d.E → q ≠ 46) : d.S e W base (fun k => ok k ∧ k ≠ g) v xs:=by
 obtain ⟨A0,c0,hb,hg,hr0⟩ := h
 exact Kd.S_types ho hb ht
theorem IsS46.own_neS {w0 W : World} {g : Nat} {f0 : List Int} {f1 : Int} {f2 : Int} {α : Type} {d : Kd α} {e : Nat} {base : Nat} {ok : Nat → Prop} {v : Value} {xs : List α} (h : IsS46 w0 W g f0 f1 f2) (ho : d.S e W base ok v xs) (ht : e ≠ 46) : some g ≠ v.ownBlock:=by
 obtain ⟨A0,c0,hb,hg,hr0⟩ := h
 exact Kd.S_ne ho hb ht
theorem IsS46.lt {w0 W : World} {g : Nat} {f0 : List Int} {f1 : Int} {f2 : Int} (h : IsS46 w0 W g f0 f1 f2) : g < W.heap.size:=by
 obtain ⟨A0,c0,hb,hg,hr0⟩ := h
 exact blk_lt hb
theorem IsS46.ge {w0 W : World} {g : Nat} {f0 : List Int} {f1 : Int} {f2 : Int} (h : IsS46 w0 W g f0 f1 f2) : w0.heap.size ≤ g:=by
 obtain ⟨A0,c0,hb,hg,hr0⟩ := h
 exact hg
theorem IsS46.ne_blk {w0 W : World} {g : Nat} {f0 : List Int} {f1 : Int} {f2 : Int} {a : Nat} {cs : Array Value} {t : TypeId} {fr : Nat × Nat} (h : IsS46 w0 W g f0 f1 f2) (hb2 : W.heap[a]? = some (.cells cs t fr)) (ht : t ≠ 46) : g ≠ a:=by
 obtain ⟨A0,c0,hb,hg,hr0⟩ := h
 rintro rfl
 rw [hb] at hb2
 injection hb2 with hb2
 injection hb2 with _ ht2
 exact ht ht2.symm
theorem IsS46.far {w0 W : World} {g : Nat} {f0 : List Int} {f1 : Int} {f2 : Int} {p : Addr} (h : IsS46 w0 W g f0 f1 f2) (hne : g ≠ p.block) (u : Value) : IsS46 w0 (W.setCell p u) g f0 f1 f2:=by
 obtain ⟨A0,c0,hb,hg,hr0⟩ := h
 exact ⟨A0,c0,blk_far hb hne u,hg,hr0⟩
theorem cellS46_0 {W : World} {g : Nat} {A0 : Option Addr} {c0 : Nat} {f0 : List Int} {f1 : Int} {f2 : Int} (h : W.heap[g]? = some (.cells #[.slice A0 f0.length c0, .int .i64 f1, .int .u64 f2] 46 (0,0))) : W.cell? ⟨g,0,none⟩ = some (.slice A0 f0.length c0):=(blk_cell h 0).trans rfl
theorem cellS46_1 {W : World} {g : Nat} {A0 : Option Addr} {c0 : Nat} {f0 : List Int} {f1 : Int} {f2 : Int} (h : W.heap[g]? = some (.cells #[.slice A0 f0.length c0, .int .i64 f1, .int .u64 f2] 46 (0,0))) : W.cell? ⟨g,1,none⟩ = some (.int .i64 f1):=(blk_cell h 1).trans rfl
theorem IsS46.set_1 {w0 W : World} {g : Nat} {f0 : List Int} {f1 : Int} {f2 : Int} (h : IsS46 w0 W g f0 f1 f2) (x : Int) : IsS46 w0 (W.setCell ⟨g,1,none⟩ (.int .i64 x)) g f0 x f2:=by
 obtain ⟨A0,c0,hb,hg,hr0⟩ := h
 exact ⟨A0,c0,by simpa using blk_set hb 1 (.int .i64 x),hg,hr0⟩
theorem cellS46_2 {W : World} {g : Nat} {A0 : Option Addr} {c0 : Nat} {f0 : List Int} {f1 : Int} {f2 : Int} (h : W.heap[g]? = some (.cells #[.slice A0 f0.length c0, .int .i64 f1, .int .u64 f2] 46 (0,0))) : W.cell? ⟨g,2,none⟩ = some (.int .u64 f2):=(blk_cell h 2).trans rfl
theorem IsS46.set_2 {w0 W : World} {g : Nat} {f0 : List Int} {f1 : Int} {f2 : Int} (h : IsS46 w0 W g f0 f1 f2) (x : Int) : IsS46 w0 (W.setCell ⟨g,2,none⟩ (.int .u64 x)) g f0 f1 x:=by
 obtain ⟨A0,c0,hb,hg,hr0⟩ := h
 exact ⟨A0,c0,by simpa using blk_set hb 2 (.int .u64 x),hg,hr0⟩
theorem IsS46.new (w0 W : World) (A0 : Option Addr) (c0 : Nat) (f0 : List Int) (f1 : Int) (f2 : Int) (hB : Below w0.heap.size w0 W) (hr0 : Kd.C (Kd.int .u8) w0 A0 f0.length f0) : IsS46 w0 (W.alloc (.cells #[.slice A0 f0.length c0, .int .i64 f1, .int .u64 f2] 46)) W.heap.size f0 f1 f2:=⟨A0,c0,by simpa using heap_alloc_new W _,hB.size,hr0⟩

/-! ### spec_l1Cur_next: function 39 -/
def spec_l1Cur_next.f (s0_0 : List Int) (s0_1 : Int) (s0_2 : Int) : Option (Int × Int × Int):=if s0_1 < (s0_0.length : Int) then (if 0 ≤ s0_1 then (if (wrap64 (s0_1 + 1)) ≤ (s0_0.length : Int) then (some (wrap64 (rd s0_0 s0_1),wrap64 (s0_1 + 1),IntKind.u64.wrap ((IntKind.u64.wrap ((IntKind.u64.wrap (s0_2 * 6364136223846793005)) + (IntKind.u64.wrap (wrap64 (rd s0_0 s0_1))))) + 906906))) else (some (wrap64 (Go.bits .and .u64 ((IntKind.u64.wrap ((IntKind.u64.wrap ((IntKind.u64.wrap (s0_2 * 6364136223846793005)) + (IntKind.u64.wrap (wrap64 (rd s0_0 s0_1))))) + 906906)) / 1099511627776) 255),wrap64 (s0_1 + 1),IntKind.u64.wrap ((IntKind.u64.wrap ((IntKind.u64.wrap (s0_2 * 6364136223846793005)) + (IntKind.u64.wrap (wrap64 (rd s0_0 s0_1))))) + 906906)))) else (none)) else (if (wrap64 (s0_1 + 1)) ≤ (s0_0.length : Int) then (some (0,wrap64 (s0_1 + 1),IntKind.u64.wrap ((IntKind.u64.wrap (IntKind.u64.wrap (s0_2 * 6364136223846793005))) + 906906))) else (some (wrap64 (Go.bits .and .u64 ((IntKind.u64.wrap ((IntKind.u64.wrap (IntKind.u64.wrap (s0_2 * 6364136223846793005))) + 906906)) / 1099511627776) 255),wrap64 (s0_1 + 1),IntKind.u64.wrap ((IntKind.u64.wrap (IntKind.u64.wrap (s0_2 * 6364136223846793005))) + 906906))))
set_option maxHeartbeats 8000000 in
set_option maxRecDepth 100000 in
theorem spec_l1Cur_next.calls (g : Nat) (s0_0 : List Int) (s0_1 : Int) (s0_2 : Int) (r1 : Int) (r2 : Int) (r3 : Int) (w0 w : World) (hI : IsS46 w0 w g s0_0 s0_1 s0_2) (hB : Below w0.heap.size w0 w) (h : spec_l1Cur_next.f s0_0 s0_1 s0_2 = some (r1,r2,r3)) :
  Calls Try.prog 39 #[.pointer (some ⟨g,0,none⟩)] w fun e w' => e = .returned (.int .i64 r1) ∧ IsS46 w0 w' g s0_0 r2 r3 ∧ Below w0.heap.size w0 w' ∧ KeepBut w w' g none:=by
 have HI0:=Aside0.mk hI
 have HK:=Aside0.mk (KeepBut.refl w g none)
 have HL:=Aside0.mk hB.size
 clear hI
 have HW0:=Aside0.mk hB.size
 have HB:=Aside0.mk hB
 clear hB
 have H : (if s0_1 < (s0_0.length : Int) then (if 0 ≤ s0_1 then (if (wrap64 (s0_1 + 1)) ≤ (s0_0.length : Int) then (some (wrap64 (rd s0_0 s0_1),wrap64 (s0_1 + 1),IntKind.u64.wrap ((IntKind.u64.wrap ((IntKind.u64.wrap (s0_2 * 6364136223846793005)) + (IntKind.u64.wrap (wrap64 (rd s0_0 s0_1))))) + 906906))) else (some (wrap64 (Go.bits .and .u64 ((IntKind.u64.wrap ((IntKind.u64.wrap ((IntKind.u64.wrap (s0_2 * 6364136223846793005)) + (IntKind.u64.wrap (wrap64 (rd s0_0 s0_1))))) + 906906)) / 1099511627776) 255),wrap64 (s0_1 + 1),IntKind.u64.wrap ((IntKind.u64.wrap ((IntKind.u64.wrap (s0_2 * 6364136223846793005)) + (IntKind.u64.wrap (wrap64 (rd s0_0 s0_1))))) + 906906)))) else (none)) else (if (wrap64 (s0_1 + 1)) ≤ (s0_0.length : Int) then (some (0,wrap64 (s0_1 + 1),IntKind.u64.wrap ((IntKind.u64.wrap (IntKind.u64.wrap (s0_2 * 6364136223846793005))) + 906906))) else (some (wrap64 (Go.bits .and .u64 ((IntKind.u64.wrap ((IntKind.u64.wrap (IntKind.u64.wrap (s0_2 * 6364136223846793005))) + 906906)) / 1099511627776) 255),wrap64 (s0_1 + 1),IntKind.u64.wrap ((IntKind.u64.wrap (IntKind.u64.wrap (s0_2 * 6364136223846793005))) + 906906))))) = some (r1,r2,r3):=h
 clear h
 by_cases c2 : s0_1 < (s0_0.length : Int)
 ·rw [if_pos c2] at H
  have c2b0 : decide (s0_1 < (s0_0.length : Int)) = true:=decide_eq_true c2
  clear c2
  by_cases c3 : 0 ≤ s0_1
  ·rw [if_pos c3] at H
   have c3b0 : decide (0 ≤ s0_1) = true:=decide_eq_true c3
   clear c3
   by_cases c4 : (wrap64 (s0_1 + 1)) ≤ (s0_0.length : Int)
   ·rw [if_pos c4] at H
    have c4b0 : decide ((wrap64 (s0_1 + 1)) ≤ (s0_0.length : Int)) = true:=decide_eq_true c4
    clear c4
    simp only [Option.some.injEq,Prod.mk.injEq] at H
    obtain ⟨rfl,rfl,rfl⟩ := H
    obtain ⟨ASz5_0,cSz5_0,HGz5,hgz5,HSz5_0⟩ := HI0.out
    have hcz5_0:=cellS46_0 HGz5
    have hcz5_1:=cellS46_1 HGz5
    have hcz5_2:=cellS46_2 HGz5
    have hfz5_1:=blk_frozen HGz5 1
    have hfz5_2:=blk_frozen HGz5 2
    clear HGz5 hgz5
    have p101 : 0 ≤ (s0_1 : Int):=of_decide_eq_true (by (with_reducible assumption))
    have q101 : s0_1 < (s0_0.length : Int):=of_decide_eq_true (by (with_reducible assumption))
    obtain ⟨ad101,e101,hx101_0⟩ := Kd.at_int HSz5_0 s0_1 p101 q101
    cases e101
    replace hx101_0:=pw_cell_below HB.out hx101_0
    replace p101:=eq_true p101
    replace q101:=eq_true q101
    go_enter Try.func39,Try.ntmps39
    go_wp2
    repeat (go_quiet (fail);try go_wp2)
    go_ret
    exact ⟨by rfl,by repeat ((with_reducible first | exact HI0.out | apply IsS46.drewN | apply IsS46.set_1 | apply IsS46.set_2)),by repeat ((with_reducible first | exact HB.out | apply pw_below_drewN | refine below_set ?_ (IsS46.ge HI0.out))),by repeat ((with_reducible first | exact HK.out | apply KeepBut.set_ | apply keep_drewN))⟩
   ·rw [if_neg c4] at H
    have c4b0 : decide ((wrap64 (s0_1 + 1)) ≤ (s0_0.length : Int)) = false:=decide_eq_false c4
    clear c4
    simp only [Option.some.injEq,Prod.mk.injEq] at H
    obtain ⟨rfl,rfl,rfl⟩ := H
    obtain ⟨ASz6_0,cSz6_0,HGz6,hgz6,HSz6_0⟩ := HI0.out
    have hcz6_0:=cellS46_0 HGz6
    have hcz6_1:=cellS46_1 HGz6
    have hcz6_2:=cellS46_2 HGz6
    have hfz6_1:=blk_frozen HGz6 1
    have hfz6_2:=blk_frozen HGz6 2
    clear HGz6 hgz6
    have p101 : 0 ≤ (s0_1 : Int):=of_decide_eq_true (by (with_reducible assumption))
    have q101 : s0_1 < (s0_0.length : Int):=of_decide_eq_true (by (with_reducible assumption))
    obtain ⟨ad101,e101,hx101_0⟩ := Kd.at_int HSz6_0 s0_1 p101 q101
    cases e101
    replace hx101_0:=pw_cell_below HB.out hx101_0
    replace p101:=eq_true p101
    replace q101:=eq_true q101
    go_enter Try.func39,Try.ntmps39
    go_wp2
    repeat (go_quiet (fail);try go_wp2)
    go_ret
    exact ⟨by rfl,by repeat ((with_reducible first | exact HI0.out | apply IsS46.drewN | apply IsS46.set_1 | apply IsS46.set_2)),by repeat ((with_reducible first | exact HB.out | apply pw_below_drewN | refine below_set ?_ (IsS46.ge HI0.out))),by repeat ((with_reducible first | exact HK.out | apply KeepBut.set_ | apply keep_drewN))⟩
  ·rw [if_neg c3] at H
   exact absurd H (by simp)
 ·rw [if_neg c2] at H
  have c2b0 : decide (s0_1 < (s0_0.length : Int)) = false:=decide_eq_false c2
  clear c2
  by_cases c7 : (wrap64 (s0_1 + 1)) ≤ (s0_0.length : Int)
  ·rw [if_pos c7] at H
   have c7b0 : decide ((wrap64 (s0_1 + 1)) ≤ (s0_0.length : Int)) = true:=decide_eq_true c7
   clear c7
   simp only [Option.some.injEq,Prod.mk.injEq] at H
   obtain ⟨rfl,rfl,rfl⟩ := H
   obtain ⟨ASz8_0,cSz8_0,HGz8,hgz8,HSz8_0⟩ := HI0.out
   have hcz8_0:=cellS46_0 HGz8
   have hcz8_1:=cellS46_1 HGz8
   have hcz8_2:=cellS46_2 HGz8
   have hfz8_1:=blk_frozen HGz8 1
   have hfz8_2:=blk_frozen HGz8 2
   clear HGz8 hgz8
   go_enter Try.func39,Try.ntmps39
   go_wp2
   repeat (go_quiet (fail);try go_wp2)
   go_ret
   exact ⟨by rfl,by repeat ((with_reducible first | exact HI0.out | apply IsS46.drewN | apply IsS46.set_1 | apply IsS46.set_2)),by repeat ((with_reducible first | exact HB.out | apply pw_below_drewN | refine below_set ?_ (IsS46.ge HI0.out))),by repeat ((with_reducible first | exact HK.out | apply KeepBut.set_ | apply keep_drewN))⟩
  ·rw [if_neg c7] at H
   have c7b0 : decide ((wrap64 (s0_1 + 1)) ≤ (s0_0.length : Int)) = false:=decide_eq_false c7
   clear c7
   simp only [Option.some.injEq,Prod.mk.injEq] at H
   obtain ⟨rfl,rfl,rfl⟩ := H
   obtain ⟨ASz9_0,cSz9_0,HGz9,hgz9,HSz9_0⟩ := HI0.out
   have hcz9_0:=cellS46_0 HGz9
   have hcz9_1:=cellS46_1 HGz9
   have hcz9_2:=cellS46_2 HGz9
   have hfz9_1:=blk_frozen HGz9 1
   have hfz9_2:=blk_frozen HGz9 2
   clear HGz9 hgz9
   go_enter Try.func39,Try.ntmps39
   go_wp2
   repeat (go_quiet (fail);try go_wp2)
   go_ret
   exact ⟨by rfl,by repeat ((with_reducible first | exact HI0.out | apply IsS46.drewN | apply IsS46.set_1 | apply IsS46.set_2)),by repeat ((with_reducible first | exact HB.out | apply pw_below_drewN | refine below_set ?_ (IsS46.ge HI0.out))),by repeat ((with_reducible first | exact HK.out | apply KeepBut.set_ | apply keep_drewN))⟩

/-! ### spec_l1Cur_pick: function 21 -/
def spec_l1Cur_pick.f (s0_0 : List Int) (s0_1 : Int) (s0_2 : Int) (a1 : Int) : Option (Int × Int × Int):=if a1 ≤ 1 then (some (0,s0_1,s0_2)) else ((spec_l1Cur_next.f s0_0 s0_1 s0_2).bind fun bt102 => (if a1 > 200 then ((spec_l1Cur_next.f s0_0 bt102.2.1 bt102.2.2).bind fun bt105 => (if a1 = 0 then (none) else (some (Int.tmod (wrap64 ((wrap64 (bt102.1 * 256)) + bt105.1)) a1,bt105.2.1,bt105.2.2)))) else (if a1 = 0 then (none) else (some (Int.tmod bt102.1 a1,bt102.2.1,bt102.2.2)))))
set_option maxHeartbeats 8000000 in
set_option maxRecDepth 100000 in
theorem spec_l1Cur_pick.calls (g : Nat) (s0_0 : List Int) (s0_1 : Int) (s0_2 : Int) (a1 : Int) (r1 : Int) (r2 : Int) (r3 : Int) (w0 w : World) (hI : IsS46 w0 w g s0_0 s0_1 s0_2) (hB : Below w0.heap.size w0 w) (h : spec_l1Cur_pick.f s0_0 s0_1 s0_2 a1 = some (r1,r2,r3)) :
  Calls Try.prog 21 #[.pointer (some ⟨g,0,none⟩), .int .i64 a1] w fun e w' => e = .returned (.int .i64 r1) ∧ IsS46 w0 w' g s0_0 r2 r3 ∧ Below w0.heap.size w0 w' ∧ KeepBut w w' g none:=by
 have HI0:=Aside0.mk hI
 have HK:=Aside0.mk (KeepBut.refl w g none)
 have HL:=Aside0.mk hB.size
 clear hI
 have HW0:=Aside0.mk hB.size
 have HB:=Aside0.mk hB
 clear hB
 have H : (if a1 ≤ 1 then (some (0,s0_1,s0_2)) else ((spec_l1Cur_next.f s0_0 s0_1 s0_2).bind fun bt102 => (if a1 > 200 then ((spec_l1Cur_next.f s0_0 bt102.2.1 bt102.2.2).bind fun bt105 => (if a1 = 0 then (none) else (some (Int.tmod (wrap64 ((wrap64 (bt102.1 * 256)) + bt105.1)) a1,bt105.2.1,bt105.2.2)))) else (if a1 = 0 then (none) else (some (Int.tmod bt102.1 a1,bt102.2.1,bt102.2.2)))))) = some (r1,r2,r3):=h
 clear h
 by_cases c3 : a1 ≤ 1
 ·rw [if_pos c3] at H
  have c3b0 : decide (a1 ≤ 1) = true:=decide_eq_true c3
  clear c3
  simp only [Option.some.injEq,Prod.mk.injEq] at H
  obtain ⟨rfl,rfl,rfl⟩ := H
  go_enter Try.func21,Try.ntmps21
  go_wp2
  go_ret
  exact ⟨by rfl,by exact HI0.out,by exact HB.out,by exact HK.out⟩
 ·rw [if_neg c3] at H
  have c3b0 : decide (a1 ≤ 1) = false:=decide_eq_false c3
  clear c3
  replace H:=Option.bind_eq_some_iff.mp H
  obtain ⟨⟨t102,t103,t104⟩,A40,H⟩ := H
  replace H : (if a1 > 200 then ((spec_l1Cur_next.f s0_0 t103 t104).bind fun bt105 => (if a1 = 0 then (none) else (some (Int.tmod (wrap64 ((wrap64 (t102 * 256)) + bt105.1)) a1,bt105.2.1,bt105.2.2)))) else (if a1 = 0 then (none) else (some (Int.tmod t102 a1,t103,t104)))) = some (r1,r2,r3):=H
  have A4:=Aside0.mk A40
  clear A40
  by_cases c5 : a1 > 200
  ·rw [if_pos c5] at H
   have c5b0 : decide (200 < a1) = true:=decide_eq_true c5
   clear c5
   replace H:=Option.bind_eq_some_iff.mp H
   obtain ⟨⟨t105,t106,t107⟩,A60,H⟩ := H
   replace H : (if a1 = 0 then (none) else (some (Int.tmod (wrap64 ((wrap64 (t102 * 256)) + t105)) a1,t106,t107))) = some (r1,r2,r3):=H
   have A6:=Aside0.mk A60
   clear A60
   by_cases c7 : a1 = 0
   ·rw [if_pos c7] at H
    exact absurd H (by simp)
   ·rw [if_neg c7] at H
    have c7b0 : (a1 == 0) = false:=beq_eq_false_iff_ne.mpr c7
    have c7b1 : (a1 != 0) = true:=bne_iff_ne.mpr c7
    simp only [Option.some.injEq,Prod.mk.injEq] at H
    obtain ⟨rfl,rfl,rfl⟩ := H
    go_enter Try.func21,Try.ntmps21
    go_wp2_with (first | ((with_reducible refine gate_callee (f:=39) rfl ?_);refine goesL_ (some 9) rfl rfl Try.func39 (by kernel_rfl) rfl #[.pointer (some ⟨g,0,none⟩)] rfl (by (try simp only [List.map_toArray,List.map_cons,List.map_nil]);rfl) ?_;(with_reducible refine (spec_l1Cur_next.calls g s0_0 s0_1 s0_2 t102 t103 t104 w0 _ ?side1 ?side2 A4.out).mono ?_);(case side1 => exact HI0.out);(case side2 => exact HB.out);rintro e w8 ⟨rfl,hi,hb,hk⟩;refine ⟨_,rfl, ?_⟩;have n0_:=Aside0.mk (KeepBut.trans (by exact HK.out) hk (.inl rfl));have n1_:=Aside0.mk (hb);have n2_:=Aside0.mk (hi);clear HK;clear HB;clear HI0;have HK:=n0_;have HB:=n1_;have HI0:=n2_;clear n0_ n1_ n2_;(try clear hb);(try clear hk);(try clear hi)) | ((with_reducible refine gate_callee (f:=39) rfl ?_);refine goesL_ (some 15) rfl rfl Try.func39 (by kernel_rfl) rfl #[.pointer (some ⟨g,0,none⟩)] rfl (by (try simp only [List.map_toArray,List.map_cons,List.map_nil]);rfl) ?_;(with_reducible refine (spec_l1Cur_next.calls g s0_0 t103 t104 t105 t106 t107 w0 _ ?side1 ?side2 A6.out).mono ?_);(case side1 => exact HI0.out);(case side2 => exact HB.out);rintro e w9 ⟨rfl,hi,hb,hk⟩;refine ⟨_,rfl, ?_⟩;have n0_:=Aside0.mk (KeepBut.trans (by exact HK.out) hk (.inl rfl));have n1_:=Aside0.mk (hb);have n2_:=Aside0.mk (hi);clear HK;clear HB;clear HI0;have HK:=n0_;have HB:=n1_;have HI0:=n2_;clear n0_ n1_ n2_;(try clear hb);(try clear hk);(try clear hi)))
    go_ret
    exact ⟨by rfl,by exact HI0.out,by exact HB.out,by exact HK.out⟩
  ·rw [if_neg c5] at H
   have c5b0 : decide (200 < a1) = false:=decide_eq_false c5
   clear c5
   by_cases c10 : a1 = 0
   ·rw [if_pos c10] at H
    exact absurd H (by simp)
   ·rw [if_neg c10] at H
    have c10b0 : (a1 == 0) = false:=beq_eq_false_iff_ne.mpr c10
    have c10b1 : (a1 != 0) = true:=bne_iff_ne.mpr c10
    simp only [Option.some.injEq,Prod.mk.injEq] at H
    obtain ⟨rfl,rfl,rfl⟩ := H
    go_enter Try.func21,Try.ntmps21
    go_wp2_with (((with_reducible refine gate_callee (f:=39) rfl ?_);refine goesL_ (some 9) rfl rfl Try.func39 (by kernel_rfl) rfl #[.pointer (some ⟨g,0,none⟩)] rfl (by (try simp only [List.map_toArray,List.map_cons,List.map_nil]);rfl) ?_;(with_reducible refine (spec_l1Cur_next.calls g s0_0 s0_1 s0_2 t102 t103 t104 w0 _ ?side1 ?side2 A4.out).mono ?_);(case side1 => exact HI0.out);(case side2 => exact HB.out);rintro e w11 ⟨rfl,hi,hb,hk⟩;refine ⟨_,rfl, ?_⟩;have n0_:=Aside0.mk (KeepBut.trans (by exact HK.out) hk (.inl rfl));have n1_:=Aside0.mk (hb);have n2_:=Aside0.mk (hi);clear HK;clear HB;clear HI0;have HK:=n0_;have HB:=n1_;have HI0:=n2_;clear n0_ n1_ n2_;(try clear hb);(try clear hk);(try clear hi)))
    go_ret
    exact ⟨by rfl,by exact HI0.out,by exact HB.out,by exact HK.out⟩

/-! ### spec_l1Cur_among: function 34 -/
def spec_l1Cur_among.f (s0_0 : List Int) (s0_1 : Int) (s0_2 : Int) (l1 : List Int) : Option (Int × Int × Int):=(spec_l1Cur_pick.f s0_0 s0_1 s0_2 (l1.length : Int)).bind fun bt108 => (if 0 ≤ bt108.1 then (if bt108.1 < (l1.length : Int) then (some (rd l1 bt108.1,bt108.2.1,bt108.2.2)) else (none)) else (none))
set_option maxHeartbeats 8000000 in
set_option maxRecDepth 100000 in
theorem spec_l1Cur_among.calls (g : Nat) (s0_0 : List Int) (s0_1 : Int) (s0_2 : Int) (A1 : Option Addr) (c1 : Nat) (l1 : List Int) (r1 : Int) (r2 : Int) (r3 : Int) (w0 w : World) (hI : IsS46 w0 w g s0_0 s0_1 s0_2) (hB : Below w0.heap.size w0 w) (hr1 : Kd.C (Kd.int .i64) w A1 l1.length l1) (hc1 : l1.length ≤ c1) (hf1 : ∀ ad,A1 = some ad → 0 < l1.length → ad.block ≠ g) (h : spec_l1Cur_among.f s0_0 s0_1 s0_2 l1 = some (r1,r2,r3)) :
  Calls Try.prog 34 #[.pointer (some ⟨g,0,none⟩), .slice A1 l1.length c1] w fun e w' => e = .returned (.int .i64 r1) ∧ IsS46 w0 w' g s0_0 r2 r3 ∧ Below w0.heap.size w0 w' ∧ KeepBut w w' g none:=by
 have HR1:=Aside0.mk hr1
 have HC1:=Aside0.mk hc1
 clear hr1 hc1
 have HI0:=Aside0.mk hI
 have HK:=Aside0.mk (KeepBut.refl w g none)
 have HL:=Aside0.mk hB.size
 clear hI
 have HW0:=Aside0.mk hB.size
 have HB:=Aside0.mk hB
 clear hB
 have H : ((spec_l1Cur_pick.f s0_0 s0_1 s0_2 (l1.length : Int)).bind fun bt108 => (if 0 ≤ bt108.1 then (if bt108.1 < (l1.length : Int) then (some (rd l1 bt108.1,bt108.2.1,bt108.2.2)) else (none)) else (none))) = some (r1,r2,r3):=h
 clear h
 replace H:=Option.bind_eq_some_iff.mp H
 obtain ⟨⟨t108,t109,t110⟩,A30,H⟩ := H
 replace H : (if 0 ≤ t108 then (if t108 < (l1.length : Int) then (some (rd l1 t108,t109,t110)) else (none)) else (none)) = some (r1,r2,r3):=H
 have A3:=Aside0.mk A30
 clear A30
 by_cases c4 : 0 ≤ t108
 ·rw [if_pos c4] at H
  have c4b0 : decide (0 ≤ t108) = true:=decide_eq_true c4
  clear c4
  by_cases c5 : t108 < (l1.length : Int)
  ·rw [if_pos c5] at H
   have c5b0 : decide (t108 < (l1.length : Int)) = true:=decide_eq_true c5
   clear c5
   simp only [Option.some.injEq,Prod.mk.injEq] at H
   obtain ⟨rfl,rfl,rfl⟩ := H
   go_enter Try.func34,Try.ntmps34
   go_wp2_with (((with_reducible refine gate_callee (f:=21) rfl ?_);refine goesL_ (some 9) rfl rfl Try.func21 (by kernel_rfl) rfl #[.pointer (some ⟨g,0,none⟩), .int .i64 (l1.length : Int)] rfl (by (try simp only [List.map_toArray,List.map_cons,List.map_nil]);rfl) ?_;(with_reducible refine (spec_l1Cur_pick.calls g s0_0 s0_1 s0_2 (l1.length : Int) t108 t109 t110 w0 _ ?side1 ?side2 A3.out).mono ?_);(case side1 => exact HI0.out);(case side2 => exact HB.out);rintro e w6 ⟨rfl,hi,hb,hk⟩;refine ⟨_,rfl, ?_⟩;have n0_:=Aside0.mk (KeepBut.trans (by exact HK.out) hk (.inl rfl));have n1_:=Aside0.mk (hb);have n2_:=Aside0.mk (hi);clear HK;clear HB;clear HI0;have HK:=n0_;have HB:=n1_;have HI0:=n2_;clear n0_ n1_ n2_;(try clear hb);(try clear hk);(try clear hi);have p111 : 0 ≤ (t108 : Int):=of_decide_eq_true (by (with_reducible assumption));have q111 : t108 < (l1.length : Int):=of_decide_eq_true (by (with_reducible assumption));obtain ⟨ad111,e111,hx111_0⟩ := Kd.at_int HR1.out t108 p111 q111;cases e111;replace hx111_0:=keep_cell HK.out hx111_0 (by (rw [add_block];exact hf1 _ rfl (by omega)));replace p111:=eq_true p111;replace q111:=eq_true q111))
   go_ret
   exact ⟨by rfl,by exact HI0.out,by exact HB.out,by exact HK.out⟩
  ·rw [if_neg c5] at H
   exact absurd H (by simp)
 ·rw [if_neg c4] at H
  exact absurd H (by simp)

/-! ### spec_l1Cur_train: function 17 -/
mutual
def spec_l1Cur_train.l0 : Nat → List (S60) → Int → List Int → Int → Int → Option ((List (S60)) × Int × Int)
 | 0,_,_,_,_,_ => none
 | k + 1,x5,x6,x1000,x1001,x1002 => if x6 > 0 then ((spec_l1Cur_pick.f x1000 x1001 x1002 3).bind fun bt118 => ((spec_l1Cur_among.f x1000 bt118.2.1 bt118.2.2 (([10000,32000,40000,64000,100000] : List Int))).bind fun bt124 => (if x5.length < 8796093022208 then (spec_l1Cur_train.l0 k (x5 ++ [(⟨wrap64 (1 + bt118.1),bt124.1⟩ : S60)]) (wrap64 (x6 - 1)) x1000 bt124.2.1 bt124.2.2) else (none)))) else ((spec_l1Cur_pick.f x1000 x1001 x1002 (x5.length : Int)).bind fun bt130 => (if 0 ≤ bt130.1 then (if bt130.1 < (x5.length : Int) then ((spec_l1Cur_pick.f x1000 bt130.2.1 bt130.2.2 40).bind fun bt135 => (if bt135.1 = 0 then ((spec_l1Cur_among.f x1000 bt135.2.1 bt135.2.2 (([0,4] : List Int))).bind fun bt141 => (some ((x5.set (bt130.1 : Int).toNat (⟨bt141.1,(rd_T60 x5 bt130.1).f1⟩ : S60)),bt141.2.1,bt141.2.2))) else (if bt135.1 = 1 then ((spec_l1Cur_among.f x1000 bt135.2.1 bt135.2.2 (([0,1,100001] : List Int))).bind fun bt148 => (some ((x5.set (bt130.1 : Int).toNat (⟨(rd_T60 x5 bt130.1).f0,bt148.1⟩ : S60)),bt148.2.1,bt148.2.2))) else (if bt135.1 = 2 then (spec_l1Cur_train.l1 k x5 bt130.1 x1000 bt135.2.1 bt135.2.2 ((rd_T60 x5 bt130.1).f0) ((rd_T60 x5 bt130.1).f1)) else (some ((x5.set (bt130.1 : Int).toNat (⟨(rd_T60 x5 bt130.1).f0,(rd_T60 x5 bt130.1).f1⟩ : S60)),bt135.2.1,bt135.2.2)))))) else (none)) else (none)))
def spec_l1Cur_train.l1 : Nat → List (S60) → Int → List Int → Int → Int → Int → Int → Option ((List (S60)) × Int × Int)
 | 0,_,_,_,_,_,_,_ => none
 | k + 1,x5,x7,x1000,x1001,x1002,x135000,x135001 => (spec_l1Cur_pick.f x1000 x1001 x1002 2).bind fun bt152 => (if (x5.length : Int) < (wrap64 (8 + bt152.1)) then (if x5.length < 8796093022208 then (spec_l1Cur_train.l1 k (x5 ++ [(⟨2,50000⟩ : S60)]) x7 x1000 bt152.2.1 bt152.2.2 x135000 x135001) else (none)) else (if 0 ≤ x7 then (if x7 < (x5.length : Int) then (some ((x5.set (x7 : Int).toNat (⟨x135000,x135001⟩ : S60)),bt152.2.1,bt152.2.2)) else (none)) else (none)))
end
def spec_l1Cur_train.f (k : Nat) (s0_0 : List Int) (s0_1 : Int) (s0_2 : Int) (a1 : Int) : Option ((List (S60)) × Int × Int):=(spec_l1Cur_pick.f s0_0 s0_1 s0_2 a1).bind fun bt115 => (spec_l1Cur_train.l0 k (([] : List (S60))) (wrap64 (1 + bt115.1)) s0_0 bt115.2.1 bt115.2.2)
theorem spec_l1Cur_train.mono_l : ∀ k,(∀ y0 y1 y2 y3 y4,LeO (spec_l1Cur_train.l0 k y0 y1 y2 y3 y4) (spec_l1Cur_train.l0 (k + 1) y0 y1 y2 y3 y4)) ∧ (∀ y0 y1 y2 y3 y4 y5 y6,LeO (spec_l1Cur_train.l1 k y0 y1 y2 y3 y4 y5 y6) (spec_l1Cur_train.l1 (k + 1) y0 y1 y2 y3 y4 y5 y6))
 | 0 => ⟨fun _ _ _ _ _ r h => by simp [spec_l1Cur_train.l0] at h,fun _ _ _ _ _ _ _ r h => by simp [spec_l1Cur_train.l1] at h⟩
 | k + 1 => by
  obtain ⟨ih0,ih1⟩ := spec_l1Cur_train.mono_l k
  refine ⟨?_, ?_⟩
  ·intro y0 y1 y2 y3 y4
   unfold spec_l1Cur_train.l0
   repeat' first
   | (with_reducible exact ih0 _ _ _ _ _)
   | (with_reducible exact ih1 _ _ _ _ _ _ _)
   | (with_reducible exact LeO.refl _)
   | (with_reducible exact LeO.none _)
   | (with_reducible refine LeO.ite ?_ ?_)
   | (with_reducible refine LeO.bind ?_ (fun _ => ?_))
   | exact ih0 _ _ _ _ _
   | exact ih1 _ _ _ _ _ _ _
   | exact LeO.none _
   | refine LeO.ite ?_ ?_
   | refine LeO.bind ?_ (fun _ => ?_)
  ·intro y0 y1 y2 y3 y4 y5 y6
   unfold spec_l1Cur_train.l1
   repeat' first
   | (with_reducible exact ih0 _ _ _ _ _)
   | (with_reducible exact ih1 _ _ _ _ _ _ _)
   | (with_reducible exact LeO.refl _)
   | (with_reducible exact LeO.none _)
   | (with_reducible refine LeO.ite ?_ ?_)
   | (with_reducible refine LeO.bind ?_ (fun _ => ?_))
   | exact ih0 _ _ _ _ _
   | exact ih1 _ _ _ _ _ _ _
   | exact LeO.none _
   | refine LeO.ite ?_ ?_
   | refine LeO.bind ?_ (fun _ => ?_)
theorem spec_l1Cur_train.mono : ∀ a0 a1 a2 a3 k,LeO (spec_l1Cur_train.f k a0 a1 a2 a3) (spec_l1Cur_train.f (k + 1) a0 a1 a2 a3):=by
 intro a0 a1 a2 a3 k
 obtain ⟨ih0,ih1⟩ := spec_l1Cur_train.mono_l k
 unfold spec_l1Cur_train.f
 repeat' first
   | (with_reducible exact ih0 _ _ _ _ _)
   | (with_reducible exact ih1 _ _ _ _ _ _ _)
   | (with_reducible exact LeO.refl _)
   | (with_reducible exact LeO.none _)
   | (with_reducible refine LeO.ite ?_ ?_)
   | (with_reducible refine LeO.bind ?_ (fun _ => ?_))
   | exact ih0 _ _ _ _ _
   | exact ih1 _ _ _ _ _ _ _
   | exact LeO.none _
   | refine LeO.ite ?_ ?_
   | refine LeO.bind ?_ (fun _ => ?_)
set_option maxHeartbeats 8000000 in
set_option maxRecDepth 100000 in
theorem spec_l1Cur_train.calls (k : Nat) (g : Nat) (s0_0 : List Int) (s0_1 : Int) (s0_2 : Int) (a1 : Int) (r1 : List (S60)) (r2 : Int) (r3 : Int) (w0 w : World) (hI : IsS46 w0 w g s0_0 s0_1 s0_2) (hB : Below w0.heap.size w0 w) (h : spec_l1Cur_train.f k s0_0 s0_1 s0_2 a1 = some (r1,r2,r3)) :
  Calls Try.prog 17 #[.pointer (some ⟨g,0,none⟩), .int .i64 a1] w fun e w' => ∃ v0_ : Value,e = .returned (v0_) ∧ Kd.R k60 60 w' w.heap.size (fun _ => True) v0_ r1 ∧ IsS46 w0 w' g s0_0 r2 r3 ∧ Below w0.heap.size w0 w' ∧ KeepBut w w' g none:=by
 have hu60:=Try.underlying60
 have HI0:=Aside0.mk hI
 have HK:=Aside0.mk (KeepBut.refl w g none)
 have HL:=Aside0.mk hB.size
 clear hI
 have HW0:=Aside0.mk hB.size
 have HB:=Aside0.mk hB
 clear hB
 have H : ((spec_l1Cur_pick.f s0_0 s0_1 s0_2 a1).bind fun bt115 => (spec_l1Cur_train.l0 k (([] : List (S60))) (wrap64 (1 + bt115.1)) s0_0 bt115.2.1 bt115.2.2)) = some (r1,r2,r3):=h
 clear h
 obtain ⟨y112,hy112⟩ : ∃ y_ : List (S60),y_ = (([] : List (S60))):=⟨_,rfl⟩
 replace H : ((spec_l1Cur_pick.f s0_0 s0_1 s0_2 a1).bind fun bt115 => (spec_l1Cur_train.l0 k y112 (wrap64 (1 + bt115.1)) s0_0 bt115.2.1 bt115.2.2)) = some (r1,r2,r3):=by (rw [hy112];with_reducible exact H)
 have Ny112:=Aside0.mk hy112
 clear hy112
 replace H:=Option.bind_eq_some_iff.mp H
 obtain ⟨⟨t115,t116,t117⟩,A30,H⟩ := H
 replace H : (spec_l1Cur_train.l0 k y112 (wrap64 (1 + t115)) s0_0 t116 t117) = some (r1,r2,r3):=H
 have A3:=Aside0.mk A30
 clear A30
 have H':=Aside0.mk H
 clear H
 go_enter Try.func17,Try.ntmps17
 go_wp2_with (first | ((with_reducible refine gate_dst (N:=9) rfl ?_);refine Kd.R_lit k60 _ 60 ?hg (N:=9) ?hd (xs:=([] : List (S60))) (inner := []) (ok:=fun _ => True) (okp:=fun _ => True) ?hr ?hp (fun _ hk => hk) trivial (Below.refl _ _) (Nat.le_refl _) (by simp) ?_;(case hd => rfl);(case hg => rfl);(case hr => (go_simp;done));(case hp => exact (Reps.none _ _));intro v113 w4 ho5 hb hg_ hnew_;clear hg_ hnew_;(rw [← Ny112.out] at ho5);have n0_:=Aside0.mk (Kd.R_lower ho5 (keep_size (w:=w) (g:=g) (row:=none) (by exact HK.out)));have n1_:=Aside0.mk (IsS46.below (by exact HI0.out) hb);have n2_:=Aside0.mk (KeepBut.trans (by exact HK.out) (KeepBut.of_below hb g none) (.inl rfl));have n3_:=Aside0.mk (below_step (by exact HB.out) hb);clear HI0;clear HK;clear HB;have HO114:=n0_;have HI0:=n1_;have HK:=n2_;have HB:=n3_;clear n0_ n1_ n2_ n3_;clear hb ho5) | ((with_reducible refine gate_callee (f:=21) rfl ?_);refine goesL_ (some 12) rfl rfl Try.func21 (by kernel_rfl) rfl #[.pointer (some ⟨g,0,none⟩), .int .i64 a1] rfl (by (try simp only [List.map_toArray,List.map_cons,List.map_nil]);rfl) ?_;(with_reducible refine (spec_l1Cur_pick.calls g s0_0 s0_1 s0_2 a1 t115 t116 t117 w0 _ ?side1 ?side2 A3.out).mono ?_);(case side1 => exact HI0.out);(case side2 => exact HB.out);rintro e w6 ⟨rfl,hi,hb,hk⟩;refine ⟨_,rfl, ?_⟩;have n0_:=Aside0.mk (Kd.R_mono (Kd.R_keep (IsS46.apart (show IsS46 w0 _ g s0_0 s0_1 s0_2 from by exact HI0.out) (by exact HO114.out) (by decide)) hk (fun _ h => h.2)) (fun _ h => h.1));have n1_:=Aside0.mk (KeepBut.trans (by exact HK.out) hk (.inl rfl));have n2_:=Aside0.mk (hb);have n3_:=Aside0.mk (hi);clear HO114;clear HK;clear HB;clear HI0;have HO114:=n0_;have HK:=n1_;have HB:=n2_;have HI0:=n3_;clear n0_ n1_ n2_ n3_;(try clear hb);(try clear hk);(try clear hi)))
 go_loopg [5,6] k (fun kq v5 v6 w' => ∃ (x5_1 : List (S60)) (x6_1 : Int) (x1001_1 : Int) (x1002_1 : Int),v6 = .int .i64 x6_1 ∧ Aside0 (spec_l1Cur_train.l0 kq x5_1 x6_1 s0_0 x1001_1 x1002_1 = some (r1,r2,r3)) ∧ Aside0 (kq ≤ k) ∧ Aside0 (Kd.R k60 60 w' w.heap.size (fun _ => True) v5 x5_1) ∧ Aside0 (IsS46 w0 w' g s0_0 x1001_1 x1002_1) ∧ Aside0 (KeepBut w w' g none) ∧ Aside0 (Below w0.heap.size w0 w'))
 case atStart => exact ⟨(y112),(wrap64 (1 + t115)),(t116),(t117),(by rfl),H',⟨Nat.le_refl _⟩,⟨by exact HO114.out⟩,⟨by exact HI0.out⟩,⟨by exact HK.out⟩,⟨by exact HB.out⟩⟩
 case round =>
  clear H'
  try clear c1
  try clear c2
  try clear p2
  try clear p6
  obtain ⟨x5_1,x6_1,x1001_1,x1002_1,rfl,HA,HK1,HO_5,HI0,HK,HB⟩ := hrel
  cases gk with
  | zero => exact absurd HA.out (by simp [spec_l1Cur_train.l0])
  | succ k1 =>
   have H:=HA.out
   clear HA
   simp only [spec_l1Cur_train.l0] at H
   by_cases c7 : x6_1 > 0
   ·rw [if_pos c7] at H
    have c7b0 : decide (0 < x6_1) = true:=decide_eq_true c7
    clear c7
    replace H:=Option.bind_eq_some_iff.mp H
    obtain ⟨⟨t118,t119,t120⟩,A80,H⟩ := H
    replace H : ((spec_l1Cur_among.f s0_0 t119 t120 (([10000,32000,40000,64000,100000] : List Int))).bind fun bt124 => (if x5_1.length < 8796093022208 then (spec_l1Cur_train.l0 k1 (x5_1 ++ [(⟨wrap64 (1 + t118),bt124.1⟩ : S60)]) (wrap64 (x6_1 - 1)) s0_0 bt124.2.1 bt124.2.2) else (none))) = some (r1,r2,r3):=H
    have A8:=Aside0.mk A80
    clear A80
    obtain ⟨y121,hy121⟩ : ∃ y_ : List Int,y_ = (([10000,32000,40000,64000,100000] : List Int)):=⟨_,rfl⟩
    replace H : ((spec_l1Cur_among.f s0_0 t119 t120 y121).bind fun bt124 => (if x5_1.length < 8796093022208 then (spec_l1Cur_train.l0 k1 (x5_1 ++ [(⟨wrap64 (1 + t118),bt124.1⟩ : S60)]) (wrap64 (x6_1 - 1)) s0_0 bt124.2.1 bt124.2.2) else (none))) = some (r1,r2,r3):=by (rw [hy121];with_reducible exact H)
    have Ny121:=Aside0.mk hy121
    clear hy121
    replace H:=Option.bind_eq_some_iff.mp H
    obtain ⟨⟨t124,t125,t126⟩,A90,H⟩ := H
    replace H : (if x5_1.length < 8796093022208 then (spec_l1Cur_train.l0 k1 (x5_1 ++ [(⟨wrap64 (1 + t118),t124⟩ : S60)]) (wrap64 (x6_1 - 1)) s0_0 t125 t126) else (none)) = some (r1,r2,r3):=H
    have A9:=Aside0.mk A90
    clear A90
    by_cases c10 : x5_1.length < 8796093022208
    ·rw [if_pos c10] at H
     have LMc10:=Aside0.mk c10
     clear c10
     obtain ⟨y127,hy127⟩ : ∃ y_ : List (S60),y_ = (x5_1 ++ [(⟨wrap64 (1 + t118),t124⟩ : S60)]):=⟨_,rfl⟩
     replace H : (spec_l1Cur_train.l0 k1 y127 (wrap64 (x6_1 - 1)) s0_0 t125 t126) = some (r1,r2,r3):=by (rw [hy127];with_reducible exact H)
     have Ny127:=Aside0.mk hy127
     clear hy127
     have H':=Aside0.mk H
     clear H
     go_wp2_with (first | ((with_reducible refine gate_callee (f:=21) rfl ?_);refine goesL_ (some 20) rfl rfl Try.func21 (by kernel_rfl) rfl #[.pointer (some ⟨g,0,none⟩), .int .i64 3] rfl (by (try simp only [List.map_toArray,List.map_cons,List.map_nil]);rfl) ?_;(with_reducible refine (spec_l1Cur_pick.calls g s0_0 x1001_1 x1002_1 3 t118 t119 t120 w0 _ ?side1 ?side2 A8.out).mono ?_);(case side1 => exact HI0.out);(case side2 => exact HB.out);rintro e w11 ⟨rfl,hi,hb,hk⟩;refine ⟨_,rfl, ?_⟩;have n0_:=Aside0.mk (Kd.R_mono (Kd.R_keep (IsS46.apart (show IsS46 w0 _ g s0_0 x1001_1 x1002_1 from by exact HI0.out) (by exact HO_5.out) (by decide)) hk (fun _ h => h.2)) (fun _ h => h.1));have n1_:=Aside0.mk (KeepBut.trans (by exact HK.out) hk (.inl rfl));have n2_:=Aside0.mk (hb);have n3_:=Aside0.mk (hi);clear HO_5;clear HK;clear HB;clear HI0;have HO_5:=n0_;have HK:=n1_;have HB:=n2_;have HI0:=n3_;clear n0_ n1_ n2_ n3_;(try clear hb);(try clear hk);(try clear hi)) | ((with_reducible refine gate_dst (N:=23) rfl ?_);refine Kd.R_lit (Kd.int .i64) _ 3 ?hg (N:=23) ?hd (xs:=([10000,32000,40000,64000,100000] : List Int)) (inner := [.int .i64 10000, .int .i64 32000, .int .i64 40000, .int .i64 64000, .int .i64 100000]) (ok:=fun _ => True) (okp:=fun _ => True) ?hr ?hp (fun _ hk => hk) trivial (Below.refl _ _) (Nat.le_refl _) (by simp) ?_;(case hd => rfl);(case hg => rfl);(case hr => (go_simp;done));(case hp => exact (Reps.one (show Kd.M (Kd.int .i64) _ _ _ 10000 [.int .i64 10000] from rfl) (Reps.one (show Kd.M (Kd.int .i64) _ _ _ 32000 [.int .i64 32000] from rfl) (Reps.one (show Kd.M (Kd.int .i64) _ _ _ 40000 [.int .i64 40000] from rfl) (Reps.one (show Kd.M (Kd.int .i64) _ _ _ 64000 [.int .i64 64000] from rfl) (Reps.one (show Kd.M (Kd.int .i64) _ _ _ 100000 [.int .i64 100000] from rfl) (Reps.none _ _)))))));intro v122 w12 ho13 hb hg_ hnew_;clear hg_ hnew_;(rw [← Ny121.out] at ho13);have n0_:=Aside0.mk (Kd.R_below (by exact HO_5.out) hb);have n1_:=Aside0.mk (Kd.R_lower ho13 (keep_size (w:=w) (g:=g) (row:=none) (by exact HK.out)));have n2_:=Aside0.mk (IsS46.below (by exact HI0.out) hb);have n3_:=Aside0.mk (KeepBut.trans (by exact HK.out) (KeepBut.of_below hb g none) (.inl rfl));have n4_:=Aside0.mk (below_step (by exact HB.out) hb);clear HO_5;clear HI0;clear HK;clear HB;have HO_5:=n0_;have HO123:=n1_;have HI0:=n2_;have HK:=n3_;have HB:=n4_;clear n0_ n1_ n2_ n3_ n4_;clear hb ho13;obtain ⟨Ao14,co14,eo14⟩ := Kd.R_slice HO123.out;subst eo14) | ((with_reducible refine gate_callee (f:=34) rfl ?_);refine goesL_ (some 24) rfl rfl Try.func34 (by kernel_rfl) rfl #[.pointer (some ⟨g,0,none⟩), .slice Ao14 y121.length co14] rfl (by (try simp only [List.map_toArray,List.map_cons,List.map_nil]);rfl) ?_;(with_reducible refine (spec_l1Cur_among.calls g s0_0 t119 t120 _ _ y121 t124 t125 t126 w0 _ ?side1 ?side2 ?side3 ?side4 ?side5 A9.out).mono ?_);(case side1 => exact HI0.out);(case side2 => exact HB.out);(case side3 => repeat (exact (Kd.R_reads' HO123.out).2.2));(case side4 => exact (Kd.R_reads' HO123.out).2.1);(case side5 => exact far_slice (IsS46.own_ne HI0.out HO123.out (by decide)));rintro e w15 ⟨rfl,hi,hb,hk⟩;refine ⟨_,rfl, ?_⟩;have n0_:=Aside0.mk (Kd.R_mono (Kd.R_keep (IsS46.apart (show IsS46 w0 _ g s0_0 t119 t120 from by exact HI0.out) (by exact HO_5.out) (by decide)) hk (fun _ h => h.2)) (fun _ h => h.1));have n1_:=Aside0.mk (Kd.R_mono (Kd.R_keep (IsS46.apart (show IsS46 w0 _ g s0_0 t119 t120 from by exact HI0.out) (by exact HO123.out) (by decide)) hk (fun _ h => h.2)) (fun _ h => h.1));have n2_:=Aside0.mk (KeepBut.trans (by exact HK.out) hk (.inl rfl));have n3_:=Aside0.mk (hb);have n4_:=Aside0.mk (hi);clear HO_5;clear HO123;clear HK;clear HB;clear HI0;have HO_5:=n0_;have HO123:=n1_;have HK:=n2_;have HB:=n3_;have HI0:=n4_;clear n0_ n1_ n2_ n3_ n4_;(try clear hb);(try clear hk);(try clear hi)) | ((with_reducible refine gate_builtin (b := .append) (xs:=#[.tmp 18, .tmp 26]) rfl ?_);at_builtin;refine Kd.R_append k60 w.heap.size rfl (.tmp 18) (.tmp 26) 24 60 (.agg #[(.int .i64 0),(.int .i64 0)]) 16 rfl Try.underlying24 info60 rfl (by decide) (by omega) u5 x5_1 (⟨wrap64 (1 + t118),t124⟩ : S60) [.int .i64 (wrap64 (1 + t118)), .int .i64 t124] (fun _ => True) (fun _ => False) rfl rfl ?aP (fun _ hk => hk.elim) ?aF ?aO (Below.refl _ _) ?aS ?aL ?_;(case aP => exact k60_mkM _ _ _ (⟨wrap64 (1 + t118),t124⟩ : S60));(case aF => exact (fun _ _ => trivial));(case aO => exact (by exact HO_5.out));(case aS => exact (keep_size (w:=w) (g:=g) (row:=none) (by exact HK.out)));(case aL => have:=LMc10.out;omega);intro v128 w16 ho hb hg hat;rw [← Ny127.out] at ho;have n0_:=Aside0.mk (IsS46.grown (by exact HI0.out) hg (IsS46.own_ne HI0.out HO_5.out (by decide)));have n1_:=Aside0.mk (Kd.R_over' (by exact HO123.out) (Kd.R_typed (by exact HO_5.out)) (by decide) hg);have n2_:=Aside0.mk (below_weaken (by exact HB.out) HL.out hb);have n3_:=Aside0.mk (KeepBut.trans (by exact HK.out) (KeepBut.of_grown hg g) (Kd.R_base2 HO_5.out));have n4_:=Aside0.mk (ho);clear HI0;clear HO123;clear HB;clear HK;clear HO_5;have HI0:=n0_;have HO123:=n1_;have HB:=n2_;have HK:=n3_;have HO129:=n4_;clear n0_ n1_ n2_ n3_ n4_;clear ho hb hg hat))
     go_roundg k1
     case measure => have:=HK1.out;omega
     case rel => exact ⟨(y127),(wrap64 (x6_1 - 1)),(t125),(t126),(by rfl),H',⟨by have:=HK1.out;omega⟩,⟨by exact HO129.out⟩,⟨by exact HI0.out⟩,⟨by exact HK.out⟩,⟨by exact HB.out⟩⟩
    ·rw [if_neg c10] at H
     exact absurd H (by simp)
   ·rw [if_neg c7] at H
    have c7b0 : decide (0 < x6_1) = false:=decide_eq_false c7
    clear c7
    replace H:=Option.bind_eq_some_iff.mp H
    obtain ⟨⟨t130,t131,t132⟩,A170,H⟩ := H
    replace H : (if 0 ≤ t130 then (if t130 < (x5_1.length : Int) then ((spec_l1Cur_pick.f s0_0 t131 t132 40).bind fun bt135 => (if bt135.1 = 0 then ((spec_l1Cur_among.f s0_0 bt135.2.1 bt135.2.2 (([0,4] : List Int))).bind fun bt141 => (some ((x5_1.set (t130 : Int).toNat (⟨bt141.1,(rd_T60 x5_1 t130).f1⟩ : S60)),bt141.2.1,bt141.2.2))) else (if bt135.1 = 1 then ((spec_l1Cur_among.f s0_0 bt135.2.1 bt135.2.2 (([0,1,100001] : List Int))).bind fun bt148 => (some ((x5_1.set (t130 : Int).toNat (⟨(rd_T60 x5_1 t130).f0,bt148.1⟩ : S60)),bt148.2.1,bt148.2.2))) else (if bt135.1 = 2 then (spec_l1Cur_train.l1 k1 x5_1 t130 s0_0 bt135.2.1 bt135.2.2 ((rd_T60 x5_1 t130).f0) ((rd_T60 x5_1 t130).f1)) else (some ((x5_1.set (t130 : Int).toNat (⟨(rd_T60 x5_1 t130).f0,(rd_T60 x5_1 t130).f1⟩ : S60)),bt135.2.1,bt135.2.2)))))) else (none)) else (none)) = some (r1,r2,r3):=H
    have A17:=Aside0.mk A170
    clear A170
    by_cases c18 : 0 ≤ t130
    ·rw [if_pos c18] at H
     have c18b0 : decide (0 ≤ t130) = true:=decide_eq_true c18
     clear c18
     by_cases c19 : t130 < (x5_1.length : Int)
     ·rw [if_pos c19] at H
      have c19b0 : decide (t130 < (x5_1.length : Int)) = true:=decide_eq_true c19
      clear c19
      replace H:=Option.bind_eq_some_iff.mp H
      obtain ⟨⟨t135,t136,t137⟩,A200,H⟩ := H
      replace H : (if t135 = 0 then ((spec_l1Cur_among.f s0_0 t136 t137 (([0,4] : List Int))).bind fun bt141 => (some ((x5_1.set (t130 : Int).toNat (⟨bt141.1,(rd_T60 x5_1 t130).f1⟩ : S60)),bt141.2.1,bt141.2.2))) else (if t135 = 1 then ((spec_l1Cur_among.f s0_0 t136 t137 (([0,1,100001] : List Int))).bind fun bt148 => (some ((x5_1.set (t130 : Int).toNat (⟨(rd_T60 x5_1 t130).f0,bt148.1⟩ : S60)),bt148.2.1,bt148.2.2))) else (if t135 = 2 then (spec_l1Cur_train.l1 k1 x5_1 t130 s0_0 t136 t137 ((rd_T60 x5_1 t130).f0) ((rd_T60 x5_1 t130).f1)) else (some ((x5_1.set (t130 : Int).toNat (⟨(rd_T60 x5_1 t130).f0,(rd_T60 x5_1 t130).f1⟩ : S60)),t136,t137))))) = some (r1,r2,r3):=H
      have A20:=Aside0.mk A200
      clear A200
      by_cases c21 : t135 = 0
      ·rw [if_pos c21] at H
       have c21b0 : (t135 == 0) = true:=beq_iff_eq.mpr c21
       have c21b1 : (t135 != 0) = false:=bne_eq_false_iff_eq.mpr c21
       clear c21
       obtain ⟨y138,hy138⟩ : ∃ y_ : List Int,y_ = (([0,4] : List Int)):=⟨_,rfl⟩
       replace H : ((spec_l1Cur_among.f s0_0 t136 t137 y138).bind fun bt141 => (some ((x5_1.set (t130 : Int).toNat (⟨bt141.1,(rd_T60 x5_1 t130).f1⟩ : S60)),bt141.2.1,bt141.2.2))) = some (r1,r2,r3):=by (rw [hy138];with_reducible exact H)
       have Ny138:=Aside0.mk hy138
       clear hy138
       replace H:=Option.bind_eq_some_iff.mp H
       obtain ⟨⟨t141,t142,t143⟩,A220,H⟩ := H
       replace H : (some ((x5_1.set (t130 : Int).toNat (⟨t141,(rd_T60 x5_1 t130).f1⟩ : S60)),t142,t143)) = some (r1,r2,r3):=H
       have A22:=Aside0.mk A220
       clear A220
       obtain ⟨y144,hy144⟩ : ∃ y_ : List (S60),y_ = (x5_1.set (t130 : Int).toNat (⟨t141,(rd_T60 x5_1 t130).f1⟩ : S60)):=⟨_,rfl⟩
       replace H : (some (y144,t142,t143)) = some (r1,r2,r3):=by (rw [hy144];with_reducible exact H)
       have Ny144:=Aside0.mk hy144
       clear hy144
       simp only [Option.some.injEq,Prod.mk.injEq] at H
       obtain ⟨rfl,rfl,rfl⟩ := H
       obtain ⟨Ao24,co24,eo24⟩ := Kd.R_slice HO_5.out
       subst eo24
       go_wp2_with (first | ((with_reducible refine gate_callee (f:=21) rfl ?_);refine goesL_ (some 31) rfl rfl Try.func21 (by kernel_rfl) rfl #[.pointer (some ⟨g,0,none⟩), .int .i64 (x5_1.length : Int)] rfl (by (try simp only [List.map_toArray,List.map_cons,List.map_nil]);rfl) ?_;(with_reducible refine (spec_l1Cur_pick.calls g s0_0 x1001_1 x1002_1 (x5_1.length : Int) t130 t131 t132 w0 _ ?side1 ?side2 A17.out).mono ?_);(case side1 => exact HI0.out);(case side2 => exact HB.out);rintro e w25 ⟨rfl,hi,hb,hk⟩;refine ⟨_,rfl, ?_⟩;have n0_:=Aside0.mk (Kd.R_mono (Kd.R_keep (IsS46.apart (show IsS46 w0 _ g s0_0 x1001_1 x1002_1 from by exact HI0.out) (by exact HO_5.out) (by decide)) hk (fun _ h => h.2)) (fun _ h => h.1));have n1_:=Aside0.mk (KeepBut.trans (by exact HK.out) hk (.inl rfl));have n2_:=Aside0.mk (hb);have n3_:=Aside0.mk (hi);clear HO_5;clear HK;clear HB;clear HI0;have HO_5:=n0_;have HK:=n1_;have HB:=n2_;have HI0:=n3_;clear n0_ n1_ n2_ n3_;(try clear hb);(try clear hk);(try clear hi);have p133 : 0 ≤ (t130 : Int):=of_decide_eq_true (by (with_reducible assumption));have q133 : t130 < (x5_1.length : Int):=of_decide_eq_true (by (with_reducible assumption));obtain ⟨ad133,e133,hx133_0,hx133_1⟩ := at_T60 (Kd.R_reads' HO_5.out).2.2 t130 p133 q133;cases e133;replace p133:=eq_true p133;replace q133:=eq_true q133) | ((with_reducible refine gate_dst (N:=8) rfl ?_);refine box_event ?hg (N:=8) ?hd (cs:=#[.int .i64 0, .int .i64 0]) (t:=60) ?hr ?_;(case hd => rfl);(case hg => rfl);(case hr => (go_simp;done));intro gb134 hg w26 hbox hb;have n0_:=Aside0.mk (Kd.R_below (Kd.R_elderB (by exact HO_5.out) gb134 (Nat.le_of_eq hg.symm)) hb);have n1_:=Aside0.mk (IsS46.below (by exact HI0.out) hb);have n2_:=Aside0.mk (KeepBut.trans (by exact HK.out) (KeepBut.of_below hb g none) (.inl rfl));have n3_:=Aside0.mk (below_step (by exact HB.out) hb);have n4_:=Aside0.mk (hbox);have n5_:=Aside0.mk ((by rw [hg];exact (keep_size (w:=w) (g:=g) (row:=none) (by exact HK.out)) : w.heap.size ≤ gb134));have n6_:=Aside0.mk ((Nat.le_trans HW0.out (by rw [hg];exact (keep_size (w:=w) (g:=g) (row:=none) (by exact HK.out)) : w.heap.size ≤ gb134) : w0.heap.size ≤ gb134));have n7_:=Aside0.mk ((by rw [hg];exact Nat.ne_of_lt (IsS46.lt (show IsS46 w0 _ g s0_0 t131 t132 from by exact HI0.out)) : g ≠ gb134));have n8_:=Aside0.mk ((by rw [hg];exact Nat.ne_of_gt (IsS46.lt (show IsS46 w0 _ g s0_0 t131 t132 from by exact HI0.out)) : gb134 ≠ g));clear HO_5;clear HI0;clear HK;clear HB;have HO_5:=n0_;have HI0:=n1_;have HK:=n2_;have HB:=n3_;have BK134:=n4_;have GW134:=n5_;have GE134:=n6_;have NB0_134:=n7_;have NB134_0:=n8_;clear n0_ n1_ n2_ n3_ n4_ n5_ n6_ n7_ n8_;clear hb hbox hg;have hnb27:=NB134_0.out;have hnc27:=NB0_134.out;have hcz28_0 : w26.cell? ⟨gb134,0,none⟩ = some (.int .i64 0):=(blk_cell BK134.out 0).trans rfl;have hcz28_1 : w26.cell? ⟨gb134,1,none⟩ = some (.int .i64 0):=(blk_cell BK134.out 1).trans rfl;have hfz28_0:=blk_frozen BK134.out 0;have hfz28_1:=blk_frozen BK134.out 1) | ((with_reducible refine gate_callee (f:=21) rfl ?_);refine goesL_ (some 37) rfl rfl Try.func21 (by kernel_rfl) rfl #[.pointer (some ⟨g,0,none⟩), .int .i64 40] rfl (by (try simp only [List.map_toArray,List.map_cons,List.map_nil]);rfl) ?_;(with_reducible refine (spec_l1Cur_pick.calls g s0_0 t131 t132 40 t135 t136 t137 w0 _ ?side1 ?side2 A20.out).mono ?_);(case side1 => repeat ((with_reducible first | exact HI0.out | refine IsS46.far ?_ NB0_134.out _)));(case side2 => repeat ((with_reducible first | exact HB.out | refine below_set ?_ GE134.out)));rintro e w29 ⟨rfl,hi,hb,hk⟩;refine ⟨_,rfl, ?_⟩;have n0_:=Aside0.mk (Kd.R_mono (Kd.R_keep (IsS46.apart (show IsS46 w0 _ g s0_0 t131 t132 from by repeat ((with_reducible first | exact HI0.out | refine IsS46.far ?_ NB0_134.out _))) (by exact (Kd.R_mono (Kd.R_far (p:=⟨gb134,1,none⟩) (Kd.R_far (p:=⟨gb134,0,none⟩) (Kd.R_mono HO_5.out (fun k_ hk => (⟨hk,hk.2⟩ : _ ∧ k_ ≠ gb134))) (fun _ hk => hk.2) (.int .i64 ((rd_T60 x5_1 t130).f0))) (fun _ hk => hk.2) (.int .i64 ((rd_T60 x5_1 t130).f1))) (fun _ h_ => h_.1))) (by decide)) hk (fun _ h => h.2)) (fun _ h => h.1));have n1_:=Aside0.mk (KeepBut.blk hk (g':=gb134) (o := .cells #[.int .i64 ((rd_T60 x5_1 t130).f0), .int .i64 ((rd_T60 x5_1 t130).f1)] 60 (0,0)) (by refine blk_put (cs:=#[.int .i64 ((rd_T60 x5_1 t130).f0), .int .i64 0]) ?_ 1 _ rfl;refine blk_put (cs:=#[.int .i64 0, .int .i64 0]) ?_ 0 _ rfl;exact BK134.out) NB134_0.out (by simp));have n2_:=Aside0.mk (KeepBut.trans (by repeat ((with_reducible first | exact HK.out | refine keep_far ?_ GW134.out _))) hk (.inl rfl));have n3_:=Aside0.mk (hb);have n4_:=Aside0.mk (hi);clear HO_5;clear BK134;clear HK;clear HB;clear HI0;have HO_5:=n0_;have BK134:=n1_;have HK:=n2_;have HB:=n3_;have HI0:=n4_;clear n0_ n1_ n2_ n3_ n4_;(try clear hb);(try clear hk);(try clear hi)) | ((with_reducible refine gate_dst (N:=41) rfl ?_);refine Kd.R_lit (Kd.int .i64) _ 3 ?hg (N:=41) ?hd (xs:=([0,4] : List Int)) (inner := [.int .i64 0, .int .i64 4]) (ok:=fun _ => True) (okp:=fun _ => True) ?hr ?hp (fun _ hk => hk) trivial (Below.refl _ _) (Nat.le_refl _) (by simp) ?_;(case hd => rfl);(case hg => rfl);(case hr => (go_simp;done));(case hp => exact (Reps.one (show Kd.M (Kd.int .i64) _ _ _ 0 [.int .i64 0] from rfl) (Reps.one (show Kd.M (Kd.int .i64) _ _ _ 4 [.int .i64 4] from rfl) (Reps.none _ _))));intro v139 w30 ho31 hb hg_ hnew_;clear hg_ hnew_;(rw [← Ny138.out] at ho31);have n0_:=Aside0.mk (Kd.R_below (by exact HO_5.out) hb);have n1_:=Aside0.mk (Kd.R_lower ho31 (keep_size (w:=w) (g:=g) (row:=none) (by exact HK.out)));have n2_:=Aside0.mk (IsS46.below (by exact HI0.out) hb);have n3_:=Aside0.mk (blk_below (g:=gb134) (o := .cells #[.int .i64 ((rd_T60 x5_1 t130).f0), .int .i64 ((rd_T60 x5_1 t130).f1)] 60 (0,0)) (by exact BK134.out) hb);have n4_:=Aside0.mk (KeepBut.trans (by exact HK.out) (KeepBut.of_below hb g none) (.inl rfl));have n5_:=Aside0.mk (below_step (by exact HB.out) hb);clear HO_5;clear HI0;clear BK134;clear HK;clear HB;have HO_5:=n0_;have HO140:=n1_;have HI0:=n2_;have BK134:=n3_;have HK:=n4_;have HB:=n5_;clear n0_ n1_ n2_ n3_ n4_ n5_;clear hb ho31;obtain ⟨Ao32,co32,eo32⟩ := Kd.R_slice HO140.out;subst eo32) | ((with_reducible refine gate_callee (f:=34) rfl ?_);refine goesL_ (some 42) rfl rfl Try.func34 (by kernel_rfl) rfl #[.pointer (some ⟨g,0,none⟩), .slice Ao32 y138.length co32] rfl (by (try simp only [List.map_toArray,List.map_cons,List.map_nil]);rfl) ?_;(with_reducible refine (spec_l1Cur_among.calls g s0_0 t136 t137 _ _ y138 t141 t142 t143 w0 _ ?side1 ?side2 ?side3 ?side4 ?side5 A22.out).mono ?_);(case side1 => exact HI0.out);(case side2 => exact HB.out);(case side3 => repeat (exact (Kd.R_reads' HO140.out).2.2));(case side4 => exact (Kd.R_reads' HO140.out).2.1);(case side5 => exact far_slice (IsS46.own_ne HI0.out HO140.out (by decide)));rintro e w33 ⟨rfl,hi,hb,hk⟩;refine ⟨_,rfl, ?_⟩;have n0_:=Aside0.mk (Kd.R_mono (Kd.R_keep (IsS46.apart (show IsS46 w0 _ g s0_0 t136 t137 from by exact HI0.out) (by exact HO_5.out) (by decide)) hk (fun _ h => h.2)) (fun _ h => h.1));have n1_:=Aside0.mk (KeepBut.blk hk (g':=gb134) (o := .cells #[.int .i64 ((rd_T60 x5_1 t130).f0), .int .i64 ((rd_T60 x5_1 t130).f1)] 60 (0,0)) (by exact BK134.out) NB134_0.out (by simp));have n2_:=Aside0.mk (Kd.R_mono (Kd.R_keep (IsS46.apart (show IsS46 w0 _ g s0_0 t136 t137 from by exact HI0.out) (by exact HO140.out) (by decide)) hk (fun _ h => h.2)) (fun _ h => h.1));have n3_:=Aside0.mk (KeepBut.trans (by exact HK.out) hk (.inl rfl));have n4_:=Aside0.mk (hb);have n5_:=Aside0.mk (hi);clear HO_5;clear BK134;clear HO140;clear HK;clear HB;clear HI0;have HO_5:=n0_;have BK134:=n1_;have HO140:=n2_;have HK:=n3_;have HB:=n4_;have HI0:=n5_;clear n0_ n1_ n2_ n3_ n4_ n5_;(try clear hb);(try clear hk);(try clear hi);have hcz34_0 : w33.cell? ⟨gb134,0,none⟩ = some (.int .i64 ((rd_T60 x5_1 t130).f0)):=(blk_cell BK134.out 0).trans rfl;have hcz34_1 : w33.cell? ⟨gb134,1,none⟩ = some (.int .i64 ((rd_T60 x5_1 t130).f1)):=(blk_cell BK134.out 1).trans rfl;have hfz34_0:=blk_frozen BK134.out 0;have hfz34_1:=blk_frozen BK134.out 1) | ((with_reducible refine gate_store (t:=3) (p:=43) rfl ?_);refine store_event (t:=3) (p:=43) (v:=?vo_w35) (w1:=(w33.setCell ⟨gb134,0,none⟩ (.int .i64 t141))) ?hg ?ho ?hn ?hr ?_;(case ho => rfl);(case hg => rfl);(case hn => rfl);(case hr => (go_simp;done));intro w35 hw;have n0_ : Aside0 (Kd.R k60 60 w35 w.heap.size (fun k_ => k_ ≠ gb134) (.slice (some ad133) x5_1.length co24) x5_1):=⟨(by rw [hw];exact (by exact Kd.R_mono (Kd.R_far (p:=⟨gb134,0,none⟩) (Kd.R_mono HO_5.out (fun k_ hk => (⟨hk,hk.2⟩ : _ ∧ k_ ≠ gb134))) (fun _ hk => hk.2) (.int .i64 t141)) (fun _ hk => hk.1.2)))⟩;have n1_ : Aside0 (Kd.R (Kd.int .i64) 3 w35 w.heap.size (fun _ => True) (.slice Ao32 y138.length co32) y138):=⟨(by rw [hw];exact (by exact Kd.R_mono (Kd.R_far (p:=⟨gb134,0,none⟩) (Kd.R_types HO140.out BK134.out (by decide)) (fun _ hk => hk.2) (.int .i64 t141)) (fun _ hk => trivial)))⟩;have n2_ : Aside0 (w35.heap[gb134]? = some (.cells #[.int .i64 t141, .int .i64 ((rd_T60 x5_1 t130).f1)] 60 (0,0))):=⟨(by rw [hw];exact (by refine blk_put (cs:=#[.int .i64 ((rd_T60 x5_1 t130).f0), .int .i64 ((rd_T60 x5_1 t130).f1)]) ?_ 0 _ rfl;exact BK134.out))⟩;have n3_ : Aside0 (IsS46 w0 w35 g s0_0 t142 t143):=⟨(by rw [hw];exact (by repeat ((with_reducible first | exact HI0.out | refine IsS46.far ?_ NB0_134.out _))))⟩;have n4_ : Aside0 (KeepBut w w35 g none):=⟨(by rw [hw];exact (by repeat ((with_reducible first | exact HK.out | refine keep_far ?_ GW134.out _))))⟩;have n5_ : Aside0 (Below w0.heap.size w0 w35):=⟨(by rw [hw];exact (by repeat ((with_reducible first | exact HB.out | refine below_set ?_ GE134.out))))⟩;clear hw;clear HO_5;clear HO140;clear BK134;clear HI0;clear HK;clear HB;have HO_5:=n0_;have HO140:=n1_;have BK134:=n2_;have HI0:=n3_;have HK:=n4_;have HB:=n5_;clear n0_ n1_ n2_ n3_ n4_ n5_;have hcz36_0 : w35.cell? ⟨gb134,0,none⟩ = some (.int .i64 t141):=(blk_cell BK134.out 0).trans rfl;have hcz36_1 : w35.cell? ⟨gb134,1,none⟩ = some (.int .i64 ((rd_T60 x5_1 t130).f1)):=(blk_cell BK134.out 1).trans rfl;have hfz36_0:=blk_frozen BK134.out 0;have hfz36_1:=blk_frozen BK134.out 1;have p23 : 0 ≤ (t130 : Int):=of_decide_eq_true (by (with_reducible assumption));have q23 : (t130 : Int) < ((x5_1.length : Int) : Int):=of_decide_eq_true (by (with_reducible assumption));obtain ⟨go23,co23,eo23,gb23,gl23,cl23,HG23⟩ := Kd.R_form HO_5.out (by omega);(cases eo23);have GB23:=Aside0.mk gb23;have GG23:=Aside0.mk HG23;clear gb23 gl23 HG23;(simp only [add_plain] at hx133_0);(simp only [add_plain] at hx133_1);obtain ⟨ce23,hcl23,hM23,hcc23,hfr23⟩ := Kd.R_elem HO_5.out z60 (t130 : Int) p23 q23;obtain rfl:=k60_openM hM23;have hx23_0 : w35.cell? ⟨go23,(t130 : Int).toNat * 2,none⟩ = some (.int .i64 ((rd_T60 x5_1 t130).f0)):=hcc23 0 _ rfl;have hx23_1 : w35.cell? ⟨go23,(t130 : Int).toNat * 2 + 1,none⟩ = some (.int .i64 ((rd_T60 x5_1 t130).f1)):=hcc23 1 _ rfl;have hf23_0 : w35.frozen? ⟨go23,(t130 : Int).toNat * 2,none⟩ = false:=hfr23 0;have hf23_1 : w35.frozen? ⟨go23,(t130 : Int).toNat * 2 + 1,none⟩ = false:=hfr23 1;clear hcl23 hcc23 hfr23;(try clear hM23);replace p23:=eq_true p23;replace q23:=eq_true q23;have HX37:=Aside0.mk (show Kd.R k60 60 w35 w.heap.size (fun k_ => k_ ≠ gb134) (.slice (some ⟨go23,0,none⟩) x5_1.length co24) x5_1 from (by exact HO_5.out));obtain ⟨ce37,hcl37,hM37,hcc37,hfr37⟩ := Kd.R_elem HX37.out z60 (t130 : Int) (of_decide_eq_true (by (with_reducible assumption))) (by have h_ : (t130 : Int) < ((x5_1.length : Int) : Int):=of_decide_eq_true (by (with_reducible assumption));exact h_);obtain rfl:=k60_openM hM37;have HP37:=Kd.R_seg HX37.out (t130 : Int) (of_decide_eq_true (by (with_reducible assumption))) (by have h_ : (t130 : Int) < ((x5_1.length : Int) : Int):=of_decide_eq_true (by (with_reducible assumption));exact h_) (seg := [.int .i64 t141, .int .i64 ((rd_T60 x5_1 t130).f1)]) (j:=0) hcl37 hcc37 (show 2 ≤ 2 from by decide) (x':=(⟨t141,(rd_T60 x5_1 t130).f1⟩ : S60)) (k60_mkM _ _ _ (⟨t141,(rd_T60 x5_1 t130).f1⟩ : S60) ) (fun _ hk => hk);have hx37_0:=hcc37 0 _ rfl;(try simp only [show (k60).sz = 2 from rfl,Nat.mul_one,Nat.add_zero] at hx37_0);have hf37_0:=hfr37 0;(try simp only [show (k60).sz = 2 from rfl,Nat.mul_one,Nat.add_zero] at hf37_0);have hx37_1:=hcc37 1 _ rfl;(try simp only [show (k60).sz = 2 from rfl,Nat.mul_one,Nat.add_zero] at hx37_1);have hf37_1:=hfr37 1;(try simp only [show (k60).sz = 2 from rfl,Nat.mul_one,Nat.add_zero] at hf37_1);clear hcl37 hcc37 hfr37;(try clear hM37)) | ((with_reducible refine gate_store (t:=60) (p:=65) rfl ?_);refine store_event (t:=60) (p:=65) (v:=?vo_w38) (w1:=((w35.setCell ⟨go23,(t130 : Int).toNat * 2,none⟩ (.int .i64 t141)).setCell ⟨go23,(t130 : Int).toNat * 2 + 1,none⟩ (.int .i64 ((rd_T60 x5_1 t130).f1)))) ?hg ?ho ?hn ?hr ?_;(case ho => rfl);(case hg => rfl);(case hn => rfl);(case hr => (go_simp;done));intro w38 hw;have hg : w35.grownBy w38 (some go23):=(by rw [hw];exact HP37.2);have hp_ : Kd.R k60 60 w38 w.heap.size (fun k_ => k_ ≠ gb134) (.slice (some ⟨go23,0,none⟩) x5_1.length co24) y144:=(by rw [hw,Ny144.out];exact HP37.1);clear HP37;have n0_:=Aside0.mk (hp_);have n1_:=Aside0.mk (IsS46.grown (by exact HI0.out) hg (IsS46.own_ne HI0.out HO_5.out (by decide)));have n2_:=Aside0.mk (blk_grown (g:=gb134) (o := .cells #[.int .i64 t141, .int .i64 ((rd_T60 x5_1 t130).f1)] 60 (0,0)) (by exact BK134.out) hg (Kd.R_away HO_5.out (fun _ hk => hk)));have n3_:=Aside0.mk (Kd.R_over' (v:=(.slice (some ⟨go23,0,none⟩) x5_1.length co24)) (by exact HO140.out) (Kd.R_typed HO_5.out) (by decide) hg);have n4_:=Aside0.mk ((by rw [hw];exact below_set (below_set (HB.out) (Nat.le_trans HL.out GB23.out)) (Nat.le_trans HL.out GB23.out) : Below w0.heap.size w0 w38));have n5_:=Aside0.mk (KeepBut.trans (by exact HK.out) (KeepBut.of_grown hg g) (Kd.R_base2 HO_5.out));clear HO_5;clear HI0;clear BK134;clear HO140;clear HB;clear HK;have HO_5:=n0_;have HI0:=n1_;have BK134:=n2_;have HO140:=n3_;have HB:=n4_;have HK:=n5_;clear n0_ n1_ n2_ n3_ n4_ n5_;clear hg hw hp_))
       go_ret
       exact ⟨_,by rfl,by exact Kd.R_mono HO_5.out (fun _ hk => trivial),by exact HI0.out,by exact HB.out,by exact HK.out⟩
      ·rw [if_neg c21] at H
       have c21b0 : (t135 == 0) = false:=beq_eq_false_iff_ne.mpr c21
       have c21b1 : (t135 != 0) = true:=bne_iff_ne.mpr c21
       by_cases c39 : t135 = 1
       ·rw [if_pos c39] at H
        have c39b0 : (t135 == 1) = true:=beq_iff_eq.mpr c39
        have c39b1 : (t135 != 1) = false:=bne_eq_false_iff_eq.mpr c39
        clear c39
        obtain ⟨y145,hy145⟩ : ∃ y_ : List Int,y_ = (([0,1,100001] : List Int)):=⟨_,rfl⟩
        replace H : ((spec_l1Cur_among.f s0_0 t136 t137 y145).bind fun bt148 => (some ((x5_1.set (t130 : Int).toNat (⟨(rd_T60 x5_1 t130).f0,bt148.1⟩ : S60)),bt148.2.1,bt148.2.2))) = some (r1,r2,r3):=by (rw [hy145];with_reducible exact H)
        have Ny145:=Aside0.mk hy145
        clear hy145
        replace H:=Option.bind_eq_some_iff.mp H
        obtain ⟨⟨t148,t149,t150⟩,A400,H⟩ := H
        replace H : (some ((x5_1.set (t130 : Int).toNat (⟨(rd_T60 x5_1 t130).f0,t148⟩ : S60)),t149,t150)) = some (r1,r2,r3):=H
        have A40:=Aside0.mk A400
        clear A400
        obtain ⟨y151,hy151⟩ : ∃ y_ : List (S60),y_ = (x5_1.set (t130 : Int).toNat (⟨(rd_T60 x5_1 t130).f0,t148⟩ : S60)):=⟨_,rfl⟩
        replace H : (some (y151,t149,t150)) = some (r1,r2,r3):=by (rw [hy151];with_reducible exact H)
        have Ny151:=Aside0.mk hy151
        clear hy151
        simp only [Option.some.injEq,Prod.mk.injEq] at H
        obtain ⟨rfl,rfl,rfl⟩ := H
        obtain ⟨Ao42,co42,eo42⟩ := Kd.R_slice HO_5.out
        subst eo42
        go_wp2_with (first | ((with_reducible refine gate_callee (f:=21) rfl ?_);refine goesL_ (some 31) rfl rfl Try.func21 (by kernel_rfl) rfl #[.pointer (some ⟨g,0,none⟩), .int .i64 (x5_1.length : Int)] rfl (by (try simp only [List.map_toArray,List.map_cons,List.map_nil]);rfl) ?_;(with_reducible refine (spec_l1Cur_pick.calls g s0_0 x1001_1 x1002_1 (x5_1.length : Int) t130 t131 t132 w0 _ ?side1 ?side2 A17.out).mono ?_);(case side1 => exact HI0.out);(case side2 => exact HB.out);rintro e w43 ⟨rfl,hi,hb,hk⟩;refine ⟨_,rfl, ?_⟩;have n0_:=Aside0.mk (Kd.R_mono (Kd.R_keep (IsS46.apart (show IsS46 w0 _ g s0_0 x1001_1 x1002_1 from by exact HI0.out) (by exact HO_5.out) (by decide)) hk (fun _ h => h.2)) (fun _ h => h.1));have n1_:=Aside0.mk (KeepBut.trans (by exact HK.out) hk (.inl rfl));have n2_:=Aside0.mk (hb);have n3_:=Aside0.mk (hi);clear HO_5;clear HK;clear HB;clear HI0;have HO_5:=n0_;have HK:=n1_;have HB:=n2_;have HI0:=n3_;clear n0_ n1_ n2_ n3_;(try clear hb);(try clear hk);(try clear hi);have p133 : 0 ≤ (t130 : Int):=of_decide_eq_true (by (with_reducible assumption));have q133 : t130 < (x5_1.length : Int):=of_decide_eq_true (by (with_reducible assumption));obtain ⟨ad133,e133,hx133_0,hx133_1⟩ := at_T60 (Kd.R_reads' HO_5.out).2.2 t130 p133 q133;cases e133;replace p133:=eq_true p133;replace q133:=eq_true q133) | ((with_reducible refine gate_dst (N:=8) rfl ?_);refine box_event ?hg (N:=8) ?hd (cs:=#[.int .i64 0, .int .i64 0]) (t:=60) ?hr ?_;(case hd => rfl);(case hg => rfl);(case hr => (go_simp;done));intro gb134 hg w44 hbox hb;have n0_:=Aside0.mk (Kd.R_below (Kd.R_elderB (by exact HO_5.out) gb134 (Nat.le_of_eq hg.symm)) hb);have n1_:=Aside0.mk (IsS46.below (by exact HI0.out) hb);have n2_:=Aside0.mk (KeepBut.trans (by exact HK.out) (KeepBut.of_below hb g none) (.inl rfl));have n3_:=Aside0.mk (below_step (by exact HB.out) hb);have n4_:=Aside0.mk (hbox);have n5_:=Aside0.mk ((by rw [hg];exact (keep_size (w:=w) (g:=g) (row:=none) (by exact HK.out)) : w.heap.size ≤ gb134));have n6_:=Aside0.mk ((Nat.le_trans HW0.out (by rw [hg];exact (keep_size (w:=w) (g:=g) (row:=none) (by exact HK.out)) : w.heap.size ≤ gb134) : w0.heap.size ≤ gb134));have n7_:=Aside0.mk ((by rw [hg];exact Nat.ne_of_lt (IsS46.lt (show IsS46 w0 _ g s0_0 t131 t132 from by exact HI0.out)) : g ≠ gb134));have n8_:=Aside0.mk ((by rw [hg];exact Nat.ne_of_gt (IsS46.lt (show IsS46 w0 _ g s0_0 t131 t132 from by exact HI0.out)) : gb134 ≠ g));clear HO_5;clear HI0;clear HK;clear HB;have HO_5:=n0_;have HI0:=n1_;have HK:=n2_;have HB:=n3_;have BK134:=n4_;have GW134:=n5_;have GE134:=n6_;have NB0_134:=n7_;have NB134_0:=n8_;clear n0_ n1_ n2_ n3_ n4_ n5_ n6_ n7_ n8_;clear hb hbox hg;have hnb45:=NB134_0.out;have hnc45:=NB0_134.out;have hcz46_0 : w44.cell? ⟨gb134,0,none⟩ = some (.int .i64 0):=(blk_cell BK134.out 0).trans rfl;have hcz46_1 : w44.cell? ⟨gb134,1,none⟩ = some (.int .i64 0):=(blk_cell BK134.out 1).trans rfl;have hfz46_0:=blk_frozen BK134.out 0;have hfz46_1:=blk_frozen BK134.out 1) | ((with_reducible refine gate_callee (f:=21) rfl ?_);refine goesL_ (some 37) rfl rfl Try.func21 (by kernel_rfl) rfl #[.pointer (some ⟨g,0,none⟩), .int .i64 40] rfl (by (try simp only [List.map_toArray,List.map_cons,List.map_nil]);rfl) ?_;(with_reducible refine (spec_l1Cur_pick.calls g s0_0 t131 t132 40 t135 t136 t137 w0 _ ?side1 ?side2 A20.out).mono ?_);(case side1 => repeat ((with_reducible first | exact HI0.out | refine IsS46.far ?_ NB0_134.out _)));(case side2 => repeat ((with_reducible first | exact HB.out | refine below_set ?_ GE134.out)));rintro e w47 ⟨rfl,hi,hb,hk⟩;refine ⟨_,rfl, ?_⟩;have n0_:=Aside0.mk (Kd.R_mono (Kd.R_keep (IsS46.apart (show IsS46 w0 _ g s0_0 t131 t132 from by repeat ((with_reducible first | exact HI0.out | refine IsS46.far ?_ NB0_134.out _))) (by exact (Kd.R_mono (Kd.R_far (p:=⟨gb134,1,none⟩) (Kd.R_far (p:=⟨gb134,0,none⟩) (Kd.R_mono HO_5.out (fun k_ hk => (⟨hk,hk.2⟩ : _ ∧ k_ ≠ gb134))) (fun _ hk => hk.2) (.int .i64 ((rd_T60 x5_1 t130).f0))) (fun _ hk => hk.2) (.int .i64 ((rd_T60 x5_1 t130).f1))) (fun _ h_ => h_.1))) (by decide)) hk (fun _ h => h.2)) (fun _ h => h.1));have n1_:=Aside0.mk (KeepBut.blk hk (g':=gb134) (o := .cells #[.int .i64 ((rd_T60 x5_1 t130).f0), .int .i64 ((rd_T60 x5_1 t130).f1)] 60 (0,0)) (by refine blk_put (cs:=#[.int .i64 ((rd_T60 x5_1 t130).f0), .int .i64 0]) ?_ 1 _ rfl;refine blk_put (cs:=#[.int .i64 0, .int .i64 0]) ?_ 0 _ rfl;exact BK134.out) NB134_0.out (by simp));have n2_:=Aside0.mk (KeepBut.trans (by repeat ((with_reducible first | exact HK.out | refine keep_far ?_ GW134.out _))) hk (.inl rfl));have n3_:=Aside0.mk (hb);have n4_:=Aside0.mk (hi);clear HO_5;clear BK134;clear HK;clear HB;clear HI0;have HO_5:=n0_;have BK134:=n1_;have HK:=n2_;have HB:=n3_;have HI0:=n4_;clear n0_ n1_ n2_ n3_ n4_;(try clear hb);(try clear hk);(try clear hi)) | ((with_reducible refine gate_dst (N:=47) rfl ?_);refine Kd.R_lit (Kd.int .i64) _ 3 ?hg (N:=47) ?hd (xs:=([0,1,100001] : List Int)) (inner := [.int .i64 0, .int .i64 1, .int .i64 100001]) (ok:=fun _ => True) (okp:=fun _ => True) ?hr ?hp (fun _ hk => hk) trivial (Below.refl _ _) (Nat.le_refl _) (by simp) ?_;(case hd => rfl);(case hg => rfl);(case hr => (go_simp;done));(case hp => exact (Reps.one (show Kd.M (Kd.int .i64) _ _ _ 0 [.int .i64 0] from rfl) (Reps.one (show Kd.M (Kd.int .i64) _ _ _ 1 [.int .i64 1] from rfl) (Reps.one (show Kd.M (Kd.int .i64) _ _ _ 100001 [.int .i64 100001] from rfl) (Reps.none _ _)))));intro v146 w48 ho49 hb hg_ hnew_;clear hg_ hnew_;(rw [← Ny145.out] at ho49);have n0_:=Aside0.mk (Kd.R_below (by exact HO_5.out) hb);have n1_:=Aside0.mk (Kd.R_lower ho49 (keep_size (w:=w) (g:=g) (row:=none) (by exact HK.out)));have n2_:=Aside0.mk (IsS46.below (by exact HI0.out) hb);have n3_:=Aside0.mk (blk_below (g:=gb134) (o := .cells #[.int .i64 ((rd_T60 x5_1 t130).f0), .int .i64 ((rd_T60 x5_1 t130).f1)] 60 (0,0)) (by exact BK134.out) hb);have n4_:=Aside0.mk (KeepBut.trans (by exact HK.out) (KeepBut.of_below hb g none) (.inl rfl));have n5_:=Aside0.mk (below_step (by exact HB.out) hb);clear HO_5;clear HI0;clear BK134;clear HK;clear HB;have HO_5:=n0_;have HO147:=n1_;have HI0:=n2_;have BK134:=n3_;have HK:=n4_;have HB:=n5_;clear n0_ n1_ n2_ n3_ n4_ n5_;clear hb ho49;obtain ⟨Ao50,co50,eo50⟩ := Kd.R_slice HO147.out;subst eo50) | ((with_reducible refine gate_callee (f:=34) rfl ?_);refine goesL_ (some 48) rfl rfl Try.func34 (by kernel_rfl) rfl #[.pointer (some ⟨g,0,none⟩), .slice Ao50 y145.length co50] rfl (by (try simp only [List.map_toArray,List.map_cons,List.map_nil]);rfl) ?_;(with_reducible refine (spec_l1Cur_among.calls g s0_0 t136 t137 _ _ y145 t148 t149 t150 w0 _ ?side1 ?side2 ?side3 ?side4 ?side5 A40.out).mono ?_);(case side1 => exact HI0.out);(case side2 => exact HB.out);(case side3 => repeat (exact (Kd.R_reads' HO147.out).2.2));(case side4 => exact (Kd.R_reads' HO147.out).2.1);(case side5 => exact far_slice (IsS46.own_ne HI0.out HO147.out (by decide)));rintro e w51 ⟨rfl,hi,hb,hk⟩;refine ⟨_,rfl, ?_⟩;have n0_:=Aside0.mk (Kd.R_mono (Kd.R_keep (IsS46.apart (show IsS46 w0 _ g s0_0 t136 t137 from by exact HI0.out) (by exact HO_5.out) (by decide)) hk (fun _ h => h.2)) (fun _ h => h.1));have n1_:=Aside0.mk (KeepBut.blk hk (g':=gb134) (o := .cells #[.int .i64 ((rd_T60 x5_1 t130).f0), .int .i64 ((rd_T60 x5_1 t130).f1)] 60 (0,0)) (by exact BK134.out) NB134_0.out (by simp));have n2_:=Aside0.mk (Kd.R_mono (Kd.R_keep (IsS46.apart (show IsS46 w0 _ g s0_0 t136 t137 from by exact HI0.out) (by exact HO147.out) (by decide)) hk (fun _ h => h.2)) (fun _ h => h.1));have n3_:=Aside0.mk (KeepBut.trans (by exact HK.out) hk (.inl rfl));have n4_:=Aside0.mk (hb);have n5_:=Aside0.mk (hi);clear HO_5;clear BK134;clear HO147;clear HK;clear HB;clear HI0;have HO_5:=n0_;have BK134:=n1_;have HO147:=n2_;have HK:=n3_;have HB:=n4_;have HI0:=n5_;clear n0_ n1_ n2_ n3_ n4_ n5_;(try clear hb);(try clear hk);(try clear hi);have hcz52_0 : w51.cell? ⟨gb134,0,none⟩ = some (.int .i64 ((rd_T60 x5_1 t130).f0)):=(blk_cell BK134.out 0).trans rfl;have hcz52_1 : w51.cell? ⟨gb134,1,none⟩ = some (.int .i64 ((rd_T60 x5_1 t130).f1)):=(blk_cell BK134.out 1).trans rfl;have hfz52_0:=blk_frozen BK134.out 0;have hfz52_1:=blk_frozen BK134.out 1) | ((with_reducible refine gate_store (t:=3) (p:=49) rfl ?_);refine store_event (t:=3) (p:=49) (v:=?vo_w53) (w1:=(w51.setCell ⟨gb134,1,none⟩ (.int .i64 t148))) ?hg ?ho ?hn ?hr ?_;(case ho => rfl);(case hg => rfl);(case hn => rfl);(case hr => (go_simp;done));intro w53 hw;have n0_ : Aside0 (Kd.R k60 60 w53 w.heap.size (fun k_ => k_ ≠ gb134) (.slice (some ad133) x5_1.length co42) x5_1):=⟨(by rw [hw];exact (by exact Kd.R_mono (Kd.R_far (p:=⟨gb134,1,none⟩) (Kd.R_mono HO_5.out (fun k_ hk => (⟨hk,hk.2⟩ : _ ∧ k_ ≠ gb134))) (fun _ hk => hk.2) (.int .i64 t148)) (fun _ hk => hk.1.2)))⟩;have n1_ : Aside0 (Kd.R (Kd.int .i64) 3 w53 w.heap.size (fun _ => True) (.slice Ao50 y145.length co50) y145):=⟨(by rw [hw];exact (by exact Kd.R_mono (Kd.R_far (p:=⟨gb134,1,none⟩) (Kd.R_types HO147.out BK134.out (by decide)) (fun _ hk => hk.2) (.int .i64 t148)) (fun _ hk => trivial)))⟩;have n2_ : Aside0 (w53.heap[gb134]? = some (.cells #[.int .i64 ((rd_T60 x5_1 t130).f0), .int .i64 t148] 60 (0,0))):=⟨(by rw [hw];exact (by refine blk_put (cs:=#[.int .i64 ((rd_T60 x5_1 t130).f0), .int .i64 ((rd_T60 x5_1 t130).f1)]) ?_ 1 _ rfl;exact BK134.out))⟩;have n3_ : Aside0 (IsS46 w0 w53 g s0_0 t149 t150):=⟨(by rw [hw];exact (by repeat ((with_reducible first | exact HI0.out | refine IsS46.far ?_ NB0_134.out _))))⟩;have n4_ : Aside0 (KeepBut w w53 g none):=⟨(by rw [hw];exact (by repeat ((with_reducible first | exact HK.out | refine keep_far ?_ GW134.out _))))⟩;have n5_ : Aside0 (Below w0.heap.size w0 w53):=⟨(by rw [hw];exact (by repeat ((with_reducible first | exact HB.out | refine below_set ?_ GE134.out))))⟩;clear hw;clear HO_5;clear HO147;clear BK134;clear HI0;clear HK;clear HB;have HO_5:=n0_;have HO147:=n1_;have BK134:=n2_;have HI0:=n3_;have HK:=n4_;have HB:=n5_;clear n0_ n1_ n2_ n3_ n4_ n5_;have hcz54_0 : w53.cell? ⟨gb134,0,none⟩ = some (.int .i64 ((rd_T60 x5_1 t130).f0)):=(blk_cell BK134.out 0).trans rfl;have hcz54_1 : w53.cell? ⟨gb134,1,none⟩ = some (.int .i64 t148):=(blk_cell BK134.out 1).trans rfl;have hfz54_0:=blk_frozen BK134.out 0;have hfz54_1:=blk_frozen BK134.out 1;have p41 : 0 ≤ (t130 : Int):=of_decide_eq_true (by (with_reducible assumption));have q41 : (t130 : Int) < ((x5_1.length : Int) : Int):=of_decide_eq_true (by (with_reducible assumption));obtain ⟨go41,co41,eo41,gb41,gl41,cl41,HG41⟩ := Kd.R_form HO_5.out (by omega);(cases eo41);have GB41:=Aside0.mk gb41;have GG41:=Aside0.mk HG41;clear gb41 gl41 HG41;(simp only [add_plain] at hx133_0);(simp only [add_plain] at hx133_1);obtain ⟨ce41,hcl41,hM41,hcc41,hfr41⟩ := Kd.R_elem HO_5.out z60 (t130 : Int) p41 q41;obtain rfl:=k60_openM hM41;have hx41_0 : w53.cell? ⟨go41,(t130 : Int).toNat * 2,none⟩ = some (.int .i64 ((rd_T60 x5_1 t130).f0)):=hcc41 0 _ rfl;have hx41_1 : w53.cell? ⟨go41,(t130 : Int).toNat * 2 + 1,none⟩ = some (.int .i64 ((rd_T60 x5_1 t130).f1)):=hcc41 1 _ rfl;have hf41_0 : w53.frozen? ⟨go41,(t130 : Int).toNat * 2,none⟩ = false:=hfr41 0;have hf41_1 : w53.frozen? ⟨go41,(t130 : Int).toNat * 2 + 1,none⟩ = false:=hfr41 1;clear hcl41 hcc41 hfr41;(try clear hM41);replace p41:=eq_true p41;replace q41:=eq_true q41;have HX55:=Aside0.mk (show Kd.R k60 60 w53 w.heap.size (fun k_ => k_ ≠ gb134) (.slice (some ⟨go41,0,none⟩) x5_1.length co42) x5_1 from (by exact HO_5.out));obtain ⟨ce55,hcl55,hM55,hcc55,hfr55⟩ := Kd.R_elem HX55.out z60 (t130 : Int) (of_decide_eq_true (by (with_reducible assumption))) (by have h_ : (t130 : Int) < ((x5_1.length : Int) : Int):=of_decide_eq_true (by (with_reducible assumption));exact h_);obtain rfl:=k60_openM hM55;have HP55:=Kd.R_seg HX55.out (t130 : Int) (of_decide_eq_true (by (with_reducible assumption))) (by have h_ : (t130 : Int) < ((x5_1.length : Int) : Int):=of_decide_eq_true (by (with_reducible assumption));exact h_) (seg := [.int .i64 ((rd_T60 x5_1 t130).f0), .int .i64 t148]) (j:=0) hcl55 hcc55 (show 2 ≤ 2 from by decide) (x':=(⟨(rd_T60 x5_1 t130).f0,t148⟩ : S60)) (k60_mkM _ _ _ (⟨(rd_T60 x5_1 t130).f0,t148⟩ : S60) ) (fun _ hk => hk);have hx55_0:=hcc55 0 _ rfl;(try simp only [show (k60).sz = 2 from rfl,Nat.mul_one,Nat.add_zero] at hx55_0);have hf55_0:=hfr55 0;(try simp only [show (k60).sz = 2 from rfl,Nat.mul_one,Nat.add_zero] at hf55_0);have hx55_1:=hcc55 1 _ rfl;(try simp only [show (k60).sz = 2 from rfl,Nat.mul_one,Nat.add_zero] at hx55_1);have hf55_1:=hfr55 1;(try simp only [show (k60).sz = 2 from rfl,Nat.mul_one,Nat.add_zero] at hf55_1);clear hcl55 hcc55 hfr55;(try clear hM55)) | ((with_reducible refine gate_store (t:=60) (p:=65) rfl ?_);refine store_event (t:=60) (p:=65) (v:=?vo_w56) (w1:=((w53.setCell ⟨go41,(t130 : Int).toNat * 2,none⟩ (.int .i64 ((rd_T60 x5_1 t130).f0))).setCell ⟨go41,(t130 : Int).toNat * 2 + 1,none⟩ (.int .i64 t148))) ?hg ?ho ?hn ?hr ?_;(case ho => rfl);(case hg => rfl);(case hn => rfl);(case hr => (go_simp;done));intro w56 hw;have hg : w53.grownBy w56 (some go41):=(by rw [hw];exact HP55.2);have hp_ : Kd.R k60 60 w56 w.heap.size (fun k_ => k_ ≠ gb134) (.slice (some ⟨go41,0,none⟩) x5_1.length co42) y151:=(by rw [hw,Ny151.out];exact HP55.1);clear HP55;have n0_:=Aside0.mk (hp_);have n1_:=Aside0.mk (IsS46.grown (by exact HI0.out) hg (IsS46.own_ne HI0.out HO_5.out (by decide)));have n2_:=Aside0.mk (blk_grown (g:=gb134) (o := .cells #[.int .i64 ((rd_T60 x5_1 t130).f0), .int .i64 t148] 60 (0,0)) (by exact BK134.out) hg (Kd.R_away HO_5.out (fun _ hk => hk)));have n3_:=Aside0.mk (Kd.R_over' (v:=(.slice (some ⟨go41,0,none⟩) x5_1.length co42)) (by exact HO147.out) (Kd.R_typed HO_5.out) (by decide) hg);have n4_:=Aside0.mk ((by rw [hw];exact below_set (below_set (HB.out) (Nat.le_trans HL.out GB41.out)) (Nat.le_trans HL.out GB41.out) : Below w0.heap.size w0 w56));have n5_:=Aside0.mk (KeepBut.trans (by exact HK.out) (KeepBut.of_grown hg g) (Kd.R_base2 HO_5.out));clear HO_5;clear HI0;clear BK134;clear HO147;clear HB;clear HK;have HO_5:=n0_;have HI0:=n1_;have BK134:=n2_;have HO147:=n3_;have HB:=n4_;have HK:=n5_;clear n0_ n1_ n2_ n3_ n4_ n5_;clear hg hw hp_))
        go_ret
        exact ⟨_,by rfl,by exact Kd.R_mono HO_5.out (fun _ hk => trivial),by exact HI0.out,by exact HB.out,by exact HK.out⟩
       ·rw [if_neg c39] at H
        have c39b0 : (t135 == 1) = false:=beq_eq_false_iff_ne.mpr c39
        have c39b1 : (t135 != 1) = true:=bne_iff_ne.mpr c39
        by_cases c57 : t135 = 2
        ·rw [if_pos c57] at H
         have c57b0 : (t135 == 2) = true:=beq_iff_eq.mpr c57
         have c57b1 : (t135 != 2) = false:=bne_eq_false_iff_eq.mpr c57
         clear c57
         have H':=Aside0.mk H
         clear H
         obtain ⟨Ao58,co58,eo58⟩ := Kd.R_slice HO_5.out
         subst eo58
         go_wp2_with (first | ((with_reducible refine gate_callee (f:=21) rfl ?_);refine goesL_ (some 31) rfl rfl Try.func21 (by kernel_rfl) rfl #[.pointer (some ⟨g,0,none⟩), .int .i64 (x5_1.length : Int)] rfl (by (try simp only [List.map_toArray,List.map_cons,List.map_nil]);rfl) ?_;(with_reducible refine (spec_l1Cur_pick.calls g s0_0 x1001_1 x1002_1 (x5_1.length : Int) t130 t131 t132 w0 _ ?side1 ?side2 A17.out).mono ?_);(case side1 => exact HI0.out);(case side2 => exact HB.out);rintro e w59 ⟨rfl,hi,hb,hk⟩;refine ⟨_,rfl, ?_⟩;have n0_:=Aside0.mk (Kd.R_mono (Kd.R_keep (IsS46.apart (show IsS46 w0 _ g s0_0 x1001_1 x1002_1 from by exact HI0.out) (by exact HO_5.out) (by decide)) hk (fun _ h => h.2)) (fun _ h => h.1));have n1_:=Aside0.mk (KeepBut.trans (by exact HK.out) hk (.inl rfl));have n2_:=Aside0.mk (hb);have n3_:=Aside0.mk (hi);clear HO_5;clear HK;clear HB;clear HI0;have HO_5:=n0_;have HK:=n1_;have HB:=n2_;have HI0:=n3_;clear n0_ n1_ n2_ n3_;(try clear hb);(try clear hk);(try clear hi);have p133 : 0 ≤ (t130 : Int):=of_decide_eq_true (by (with_reducible assumption));have q133 : t130 < (x5_1.length : Int):=of_decide_eq_true (by (with_reducible assumption));obtain ⟨ad133,e133,hx133_0,hx133_1⟩ := at_T60 (Kd.R_reads' HO_5.out).2.2 t130 p133 q133;cases e133;replace p133:=eq_true p133;replace q133:=eq_true q133) | ((with_reducible refine gate_dst (N:=8) rfl ?_);refine box_event ?hg (N:=8) ?hd (cs:=#[.int .i64 0, .int .i64 0]) (t:=60) ?hr ?_;(case hd => rfl);(case hg => rfl);(case hr => (go_simp;done));intro gb134 hg w60 hbox hb;have n0_:=Aside0.mk (Kd.R_below (Kd.R_elderB (by exact HO_5.out) gb134 (Nat.le_of_eq hg.symm)) hb);have n1_:=Aside0.mk (IsS46.below (by exact HI0.out) hb);have n2_:=Aside0.mk (KeepBut.trans (by exact HK.out) (KeepBut.of_below hb g none) (.inl rfl));have n3_:=Aside0.mk (below_step (by exact HB.out) hb);have n4_:=Aside0.mk (hbox);have n5_:=Aside0.mk ((by rw [hg];exact (keep_size (w:=w) (g:=g) (row:=none) (by exact HK.out)) : w.heap.size ≤ gb134));have n6_:=Aside0.mk ((Nat.le_trans HW0.out (by rw [hg];exact (keep_size (w:=w) (g:=g) (row:=none) (by exact HK.out)) : w.heap.size ≤ gb134) : w0.heap.size ≤ gb134));have n7_:=Aside0.mk ((by rw [hg];exact Nat.ne_of_lt (IsS46.lt (show IsS46 w0 _ g s0_0 t131 t132 from by exact HI0.out)) : g ≠ gb134));have n8_:=Aside0.mk ((by rw [hg];exact Nat.ne_of_gt (IsS46.lt (show IsS46 w0 _ g s0_0 t131 t132 from by exact HI0.out)) : gb134 ≠ g));clear HO_5;clear HI0;clear HK;clear HB;have HO_5:=n0_;have HI0:=n1_;have HK:=n2_;have HB:=n3_;have BK134:=n4_;have GW134:=n5_;have GE134:=n6_;have NB0_134:=n7_;have NB134_0:=n8_;clear n0_ n1_ n2_ n3_ n4_ n5_ n6_ n7_ n8_;clear hb hbox hg;have hnb61:=NB134_0.out;have hnc61:=NB0_134.out;have hcz62_0 : w60.cell? ⟨gb134,0,none⟩ = some (.int .i64 0):=(blk_cell BK134.out 0).trans rfl;have hcz62_1 : w60.cell? ⟨gb134,1,none⟩ = some (.int .i64 0):=(blk_cell BK134.out 1).trans rfl;have hfz62_0:=blk_frozen BK134.out 0;have hfz62_1:=blk_frozen BK134.out 1) | ((with_reducible refine gate_callee (f:=21) rfl ?_);refine goesL_ (some 37) rfl rfl Try.func21 (by kernel_rfl) rfl #[.pointer (some ⟨g,0,none⟩), .int .i64 40] rfl (by (try simp only [List.map_toArray,List.map_cons,List.map_nil]);rfl) ?_;(with_reducible refine (spec_l1Cur_pick.calls g s0_0 t131 t132 40 t135 t136 t137 w0 _ ?side1 ?side2 A20.out).mono ?_);(case side1 => repeat ((with_reducible first | exact HI0.out | refine IsS46.far ?_ NB0_134.out _)));(case side2 => repeat ((with_reducible first | exact HB.out | refine below_set ?_ GE134.out)));rintro e w63 ⟨rfl,hi,hb,hk⟩;refine ⟨_,rfl, ?_⟩;have n0_:=Aside0.mk (Kd.R_mono (Kd.R_keep (IsS46.apart (show IsS46 w0 _ g s0_0 t131 t132 from by repeat ((with_reducible first | exact HI0.out | refine IsS46.far ?_ NB0_134.out _))) (by exact (Kd.R_mono (Kd.R_far (p:=⟨gb134,1,none⟩) (Kd.R_far (p:=⟨gb134,0,none⟩) (Kd.R_mono HO_5.out (fun k_ hk => (⟨hk,hk.2⟩ : _ ∧ k_ ≠ gb134))) (fun _ hk => hk.2) (.int .i64 ((rd_T60 x5_1 t130).f0))) (fun _ hk => hk.2) (.int .i64 ((rd_T60 x5_1 t130).f1))) (fun _ h_ => h_.1))) (by decide)) hk (fun _ h => h.2)) (fun _ h => h.1));have n1_:=Aside0.mk (KeepBut.blk hk (g':=gb134) (o := .cells #[.int .i64 ((rd_T60 x5_1 t130).f0), .int .i64 ((rd_T60 x5_1 t130).f1)] 60 (0,0)) (by refine blk_put (cs:=#[.int .i64 ((rd_T60 x5_1 t130).f0), .int .i64 0]) ?_ 1 _ rfl;refine blk_put (cs:=#[.int .i64 0, .int .i64 0]) ?_ 0 _ rfl;exact BK134.out) NB134_0.out (by simp));have n2_:=Aside0.mk (KeepBut.trans (by repeat ((with_reducible first | exact HK.out | refine keep_far ?_ GW134.out _))) hk (.inl rfl));have n3_:=Aside0.mk (hb);have n4_:=Aside0.mk (hi);clear HO_5;clear BK134;clear HK;clear HB;clear HI0;have HO_5:=n0_;have BK134:=n1_;have HK:=n2_;have HB:=n3_;have HI0:=n4_;clear n0_ n1_ n2_ n3_ n4_;(try clear hb);(try clear hk);(try clear hi)))
         (skip)
         go_loopg [5] k1 (fun kq v5 w' => ∃ (x5_2 : List (S60)) (x1001_2 : Int) (x1002_2 : Int),Aside0 (spec_l1Cur_train.l1 kq x5_2 t130 s0_0 x1001_2 x1002_2 ((rd_T60 x5_1 t130).f0) ((rd_T60 x5_1 t130).f1) = some (r1,r2,r3)) ∧ Aside0 (kq ≤ k1) ∧ Aside0 (Kd.R k60 60 w' w.heap.size (fun k_ => k_ ≠ gb134) v5 x5_2) ∧ Aside0 (w'.heap[gb134]? = some (.cells #[.int .i64 ((rd_T60 x5_1 t130).f0), .int .i64 ((rd_T60 x5_1 t130).f1)] 60 (0,0))) ∧ Aside0 (IsS46 w0 w' g s0_0 x1001_2 x1002_2) ∧ Aside0 (KeepBut w w' g none) ∧ Aside0 (Below w0.heap.size w0 w'))
         case atStart => exact ⟨(x5_1),(t136),(t137),H',⟨Nat.le_refl _⟩,⟨by exact Kd.R_mono HO_5.out (fun _ hk => hk.2)⟩,⟨by exact BK134.out⟩,⟨by exact HI0.out⟩,⟨by exact HK.out⟩,⟨by exact HB.out⟩⟩
         case round =>
          clear H'
          try clear c1
          try clear p1
          try clear q1
          try clear hx1
          try clear c2
          try clear p2
          try clear q2
          try clear hx2
          try clear hf2
          try clear c3
          try clear hx3
          try clear hf3
          try clear c4
          try clear p4
          try clear q4
          try clear hx4
          try clear hf4
          try clear c5
          try clear hx5
          try clear hf5
          try clear c6
          try clear p6
          try clear c7
          try clear c7b0
          try clear c10
          try clear p13
          try clear q13
          try clear hx13
          try clear c17
          try clear c18
          try clear c18b0
          try clear c19
          try clear c19b0
          try clear c21
          try clear c21b0
          try clear c21b1
          try clear c23
          try clear p23
          try clear q23
          try clear hx23
          try clear hf23
          try clear c27
          try clear c34
          try clear c37
          try clear hx37
          try clear hf37
          try clear c39
          try clear c39b0
          try clear c39b1
          try clear c41
          try clear p41
          try clear q41
          try clear hx41
          try clear hf41
          try clear c45
          try clear c55
          try clear hx55
          try clear hf55
          try clear c57
          try clear c57b0
          try clear c57b1
          try clear c61
          try clear hcz28_0
          try clear hcz28_1
          try clear hcz34_0
          try clear hcz34_1
          try clear hcz36_0
          try clear hcz36_1
          try clear hcz46_0
          try clear hcz46_1
          try clear hcz52_0
          try clear hcz52_1
          try clear hcz54_0
          try clear hcz54_1
          try clear hcz62_0
          try clear hcz62_1
          try clear hfz28_0
          try clear hfz28_1
          try clear hfz34_0
          try clear hfz34_1
          try clear hfz36_0
          try clear hfz36_1
          try clear hfz46_0
          try clear hfz46_1
          try clear hfz52_0
          try clear hfz52_1
          try clear hfz54_0
          try clear hfz54_1
          try clear hfz62_0
          try clear hfz62_1
          try clear hx133_0
          try clear hx133_1
          try clear hx23_0
          try clear hx23_1
          try clear hx37_0
          try clear hx37_1
          try clear hx41_0
          try clear hx41_1
          try clear hx55_0
          try clear hx55_1
          try clear p133
          try clear p2
          try clear p23
          try clear p41
          try clear p6
          try clear q133
          try clear q23
          try clear q41
          obtain ⟨x5_2,x1001_2,x1002_2,HA,HK2,HO_5,BK134,HI0,HK,HB⟩ := hrel
          cases gk with
          | zero => exact absurd HA.out (by simp [spec_l1Cur_train.l1])
          | succ k2 =>
           have H:=HA.out
           clear HA
           simp only [spec_l1Cur_train.l1] at H
           replace H:=Option.bind_eq_some_iff.mp H
           obtain ⟨⟨t152,t153,t154⟩,A640,H⟩ := H
           replace H : (if (x5_2.length : Int) < (wrap64 (8 + t152)) then (if x5_2.length < 8796093022208 then (spec_l1Cur_train.l1 k2 (x5_2 ++ [(⟨2,50000⟩ : S60)]) t130 s0_0 t153 t154 ((rd_T60 x5_1 t130).f0) ((rd_T60 x5_1 t130).f1)) else (none)) else (if 0 ≤ t130 then (if t130 < (x5_2.length : Int) then (some ((x5_2.set (t130 : Int).toNat (⟨((rd_T60 x5_1 t130).f0),((rd_T60 x5_1 t130).f1)⟩ : S60)),t153,t154)) else (none)) else (none))) = some (r1,r2,r3):=H
           have A64:=Aside0.mk A640
           clear A640
           by_cases c65 : (x5_2.length : Int) < (wrap64 (8 + t152))
           ·rw [if_pos c65] at H
            have c65b0 : decide ((x5_2.length : Int) < (wrap64 (8 + t152))) = true:=decide_eq_true c65
            clear c65
            by_cases c66 : x5_2.length < 8796093022208
            ·rw [if_pos c66] at H
             have LMc66:=Aside0.mk c66
             clear c66
             obtain ⟨y155,hy155⟩ : ∃ y_ : List (S60),y_ = (x5_2 ++ [(⟨2,50000⟩ : S60)]):=⟨_,rfl⟩
             replace H : (spec_l1Cur_train.l1 k2 y155 t130 s0_0 t153 t154 ((rd_T60 x5_1 t130).f0) ((rd_T60 x5_1 t130).f1)) = some (r1,r2,r3):=by (rw [hy155];with_reducible exact H)
             have Ny155:=Aside0.mk hy155
             clear hy155
             have H':=Aside0.mk H
             clear H
             obtain ⟨Ao67,co67,eo67⟩ := Kd.R_slice HO_5.out
             subst eo67
             go_wp2_with (first | ((with_reducible refine gate_callee (f:=21) rfl ?_);refine goesL_ (some 55) rfl rfl Try.func21 (by kernel_rfl) rfl #[.pointer (some ⟨g,0,none⟩), .int .i64 2] rfl (by (try simp only [List.map_toArray,List.map_cons,List.map_nil]);rfl) ?_;(with_reducible refine (spec_l1Cur_pick.calls g s0_0 x1001_2 x1002_2 2 t152 t153 t154 w0 _ ?side1 ?side2 A64.out).mono ?_);(case side1 => exact HI0.out);(case side2 => exact HB.out);rintro e w68 ⟨rfl,hi,hb,hk⟩;refine ⟨_,rfl, ?_⟩;have n0_:=Aside0.mk (Kd.R_mono (Kd.R_keep (IsS46.apart (show IsS46 w0 _ g s0_0 x1001_2 x1002_2 from by exact HI0.out) (by exact HO_5.out) (by decide)) hk (fun _ h => h.2)) (fun _ h => h.1));have n1_:=Aside0.mk (KeepBut.blk hk (g':=gb134) (o := .cells #[.int .i64 ((rd_T60 x5_1 t130).f0), .int .i64 ((rd_T60 x5_1 t130).f1)] 60 (0,0)) (by exact BK134.out) NB134_0.out (by simp));have n2_:=Aside0.mk (KeepBut.trans (by exact HK.out) hk (.inl rfl));have n3_:=Aside0.mk (hb);have n4_:=Aside0.mk (hi);clear HO_5;clear BK134;clear HK;clear HB;clear HI0;have HO_5:=n0_;have BK134:=n1_;have HK:=n2_;have HB:=n3_;have HI0:=n4_;clear n0_ n1_ n2_ n3_ n4_;(try clear hb);(try clear hk);(try clear hi)) | ((with_reducible refine gate_builtin (b := .append) (xs:=#[.tmp 58, .tmp 60]) rfl ?_);at_builtin;refine Kd.R_append k60 w.heap.size rfl (.tmp 58) (.tmp 60) 24 60 (.agg #[(.int .i64 0),(.int .i64 0)]) 16 rfl Try.underlying24 info60 rfl (by decide) (by omega) (.slice Ao67 x5_2.length co67) x5_2 (⟨2,50000⟩ : S60) [.int .i64 2, .int .i64 50000] (fun k_ => k_ ≠ gb134) (fun _ => False) rfl rfl ?aP (fun _ hk => hk.elim) ?aF ?aO (Below.refl _ _) ?aS ?aL ?_;(case aP => exact k60_mkM _ _ _ (⟨2,50000⟩ : S60));(case aF => exact (fun k_ hk => Kd.freshB (g:=gb134) (o := .cells #[.int .i64 ((rd_T60 x5_1 t130).f0), .int .i64 ((rd_T60 x5_1 t130).f1)] 60 (0,0)) (by exact BK134.out) k_ hk));(case aO => exact (by exact HO_5.out));(case aS => exact (keep_size (w:=w) (g:=g) (row:=none) (by exact HK.out)));(case aL => have:=LMc66.out;omega);intro v156 w69 ho hb hg hat;rw [← Ny155.out] at ho;have n0_:=Aside0.mk (blk_grown (g:=gb134) (o := .cells #[.int .i64 ((rd_T60 x5_1 t130).f0), .int .i64 ((rd_T60 x5_1 t130).f1)] 60 (0,0)) (by exact BK134.out) hg (Kd.R_away HO_5.out (fun _ hk => hk)));have n1_:=Aside0.mk (IsS46.grown (by exact HI0.out) hg (IsS46.own_ne HI0.out HO_5.out (by decide)));have n2_:=Aside0.mk (below_weaken (by exact HB.out) HL.out hb);have n3_:=Aside0.mk (KeepBut.trans (by exact HK.out) (KeepBut.of_grown hg g) (Kd.R_base2 HO_5.out));have n4_:=Aside0.mk (ho);clear BK134;clear HI0;clear HB;clear HK;clear HO_5;have BK134:=n0_;have HI0:=n1_;have HB:=n2_;have HK:=n3_;have HO157:=n4_;clear n0_ n1_ n2_ n3_ n4_;clear ho hb hg hat))
             go_roundg k2
             case measure => have:=HK1.out;have:=HK2.out;omega
             case rel => exact ⟨(y155),(t153),(t154),H',⟨by have:=HK1.out;have:=HK2.out;omega⟩,⟨by exact HO157.out⟩,⟨by exact BK134.out⟩,⟨by exact HI0.out⟩,⟨by exact HK.out⟩,⟨by exact HB.out⟩⟩
            ·rw [if_neg c66] at H
             exact absurd H (by simp)
           ·rw [if_neg c65] at H
            have c65b0 : decide ((x5_2.length : Int) < (wrap64 (8 + t152))) = false:=decide_eq_false c65
            clear c65
            by_cases c70 : 0 ≤ t130
            ·rw [if_pos c70] at H
             have c70b0 : decide (0 ≤ t130) = true:=decide_eq_true c70
             clear c70
             by_cases c71 : t130 < (x5_2.length : Int)
             ·rw [if_pos c71] at H
              have c71b0 : decide (t130 < (x5_2.length : Int)) = true:=decide_eq_true c71
              clear c71
              obtain ⟨y158,hy158⟩ : ∃ y_ : List (S60),y_ = (x5_2.set (t130 : Int).toNat (⟨((rd_T60 x5_1 t130).f0),((rd_T60 x5_1 t130).f1)⟩ : S60)):=⟨_,rfl⟩
              replace H : (some (y158,t153,t154)) = some (r1,r2,r3):=by (rw [hy158];with_reducible exact H)
              have Ny158:=Aside0.mk hy158
              clear hy158
              simp only [Option.some.injEq,Prod.mk.injEq] at H
              obtain ⟨rfl,rfl,rfl⟩ := H
              obtain ⟨Ao73,co73,eo73⟩ := Kd.R_slice HO_5.out
              subst eo73
              go_wp2_with (first | ((with_reducible refine gate_callee (f:=21) rfl ?_);refine goesL_ (some 55) rfl rfl Try.func21 (by kernel_rfl) rfl #[.pointer (some ⟨g,0,none⟩), .int .i64 2] rfl (by (try simp only [List.map_toArray,List.map_cons,List.map_nil]);rfl) ?_;(with_reducible refine (spec_l1Cur_pick.calls g s0_0 x1001_2 x1002_2 2 t152 t153 t154 w0 _ ?side1 ?side2 A64.out).mono ?_);(case side1 => exact HI0.out);(case side2 => exact HB.out);rintro e w74 ⟨rfl,hi,hb,hk⟩;refine ⟨_,rfl, ?_⟩;have n0_:=Aside0.mk (Kd.R_mono (Kd.R_keep (IsS46.apart (show IsS46 w0 _ g s0_0 x1001_2 x1002_2 from by exact HI0.out) (by exact HO_5.out) (by decide)) hk (fun _ h => h.2)) (fun _ h => h.1));have n1_:=Aside0.mk (KeepBut.blk hk (g':=gb134) (o := .cells #[.int .i64 ((rd_T60 x5_1 t130).f0), .int .i64 ((rd_T60 x5_1 t130).f1)] 60 (0,0)) (by exact BK134.out) NB134_0.out (by simp));have n2_:=Aside0.mk (KeepBut.trans (by exact HK.out) hk (.inl rfl));have n3_:=Aside0.mk (hb);have n4_:=Aside0.mk (hi);clear HO_5;clear BK134;clear HK;clear HB;clear HI0;have HO_5:=n0_;have BK134:=n1_;have HK:=n2_;have HB:=n3_;have HI0:=n4_;clear n0_ n1_ n2_ n3_ n4_;(try clear hb);(try clear hk);(try clear hi);have hnb75:=NB134_0.out;have hnc75:=NB0_134.out;have hcz76_0 : w74.cell? ⟨gb134,0,none⟩ = some (.int .i64 ((rd_T60 x5_1 t130).f0)):=(blk_cell BK134.out 0).trans rfl;have hcz76_1 : w74.cell? ⟨gb134,1,none⟩ = some (.int .i64 ((rd_T60 x5_1 t130).f1)):=(blk_cell BK134.out 1).trans rfl;have hfz76_0:=blk_frozen BK134.out 0;have hfz76_1:=blk_frozen BK134.out 1;have p72 : 0 ≤ (t130 : Int):=of_decide_eq_true (by (with_reducible assumption));have q72 : (t130 : Int) < ((x5_2.length : Int) : Int):=of_decide_eq_true (by (with_reducible assumption));obtain ⟨go72,co72,eo72,gb72,gl72,cl72,HG72⟩ := Kd.R_form HO_5.out (by omega);(cases eo72);have GB72:=Aside0.mk gb72;have GG72:=Aside0.mk HG72;clear gb72 gl72 HG72;obtain ⟨ce72,hcl72,hM72,hcc72,hfr72⟩ := Kd.R_elem HO_5.out z60 (t130 : Int) p72 q72;obtain rfl:=k60_openM hM72;have hx72_0 : w74.cell? ⟨go72,(t130 : Int).toNat * 2,none⟩ = some (.int .i64 ((rd_T60 x5_2 t130).f0)):=hcc72 0 _ rfl;have hx72_1 : w74.cell? ⟨go72,(t130 : Int).toNat * 2 + 1,none⟩ = some (.int .i64 ((rd_T60 x5_2 t130).f1)):=hcc72 1 _ rfl;have hf72_0 : w74.frozen? ⟨go72,(t130 : Int).toNat * 2,none⟩ = false:=hfr72 0;have hf72_1 : w74.frozen? ⟨go72,(t130 : Int).toNat * 2 + 1,none⟩ = false:=hfr72 1;clear hcl72 hcc72 hfr72;(try clear hM72);replace p72:=eq_true p72;replace q72:=eq_true q72;have HX77:=Aside0.mk (show Kd.R k60 60 w74 w.heap.size (fun k_ => k_ ≠ gb134) (.slice (some ⟨go72,0,none⟩) x5_2.length co73) x5_2 from (by exact HO_5.out));obtain ⟨ce77,hcl77,hM77,hcc77,hfr77⟩ := Kd.R_elem HX77.out z60 (t130 : Int) (of_decide_eq_true (by (with_reducible assumption))) (by have h_ : (t130 : Int) < ((x5_2.length : Int) : Int):=of_decide_eq_true (by (with_reducible assumption));exact h_);obtain rfl:=k60_openM hM77;have HP77:=Kd.R_seg HX77.out (t130 : Int) (of_decide_eq_true (by (with_reducible assumption))) (by have h_ : (t130 : Int) < ((x5_2.length : Int) : Int):=of_decide_eq_true (by (with_reducible assumption));exact h_) (seg := [.int .i64 ((rd_T60 x5_1 t130).f0), .int .i64 ((rd_T60 x5_1 t130).f1)]) (j:=0) hcl77 hcc77 (show 2 ≤ 2 from by decide) (x':=(⟨((rd_T60 x5_1 t130).f0),((rd_T60 x5_1 t130).f1)⟩ : S60)) (k60_mkM _ _ _ (⟨((rd_T60 x5_1 t130).f0),((rd_T60 x5_1 t130).f1)⟩ : S60) ) (fun _ hk => hk);have hx77_0:=hcc77 0 _ rfl;(try simp only [show (k60).sz = 2 from rfl,Nat.mul_one,Nat.add_zero] at hx77_0);have hf77_0:=hfr77 0;(try simp only [show (k60).sz = 2 from rfl,Nat.mul_one,Nat.add_zero] at hf77_0);have hx77_1:=hcc77 1 _ rfl;(try simp only [show (k60).sz = 2 from rfl,Nat.mul_one,Nat.add_zero] at hx77_1);have hf77_1:=hfr77 1;(try simp only [show (k60).sz = 2 from rfl,Nat.mul_one,Nat.add_zero] at hf77_1);clear hcl77 hcc77 hfr77;(try clear hM77)) | ((with_reducible refine gate_store (t:=60) (p:=65) rfl ?_);refine store_event (t:=60) (p:=65) (v:=?vo_w78) (w1:=((w74.setCell ⟨go72,(t130 : Int).toNat * 2,none⟩ (.int .i64 ((rd_T60 x5_1 t130).f0))).setCell ⟨go72,(t130 : Int).toNat * 2 + 1,none⟩ (.int .i64 ((rd_T60 x5_1 t130).f1)))) ?hg ?ho ?hn ?hr ?_;(case ho => rfl);(case hg => rfl);(case hn => rfl);(case hr => (go_simp;done));intro w78 hw;have hg : w74.grownBy w78 (some go72):=(by rw [hw];exact HP77.2);have hp_ : Kd.R k60 60 w78 w.heap.size (fun k_ => k_ ≠ gb134) (.slice (some ⟨go72,0,none⟩) x5_2.length co73) y158:=(by rw [hw,Ny158.out];exact HP77.1);clear HP77;have n0_:=Aside0.mk (hp_);have n1_:=Aside0.mk (blk_grown (g:=gb134) (o := .cells #[.int .i64 ((rd_T60 x5_1 t130).f0), .int .i64 ((rd_T60 x5_1 t130).f1)] 60 (0,0)) (by exact BK134.out) hg (Kd.R_away HO_5.out (fun _ hk => hk)));have n2_:=Aside0.mk (IsS46.grown (by exact HI0.out) hg (IsS46.own_ne HI0.out HO_5.out (by decide)));have n3_:=Aside0.mk ((by rw [hw];exact below_set (below_set (HB.out) (Nat.le_trans HL.out GB72.out)) (Nat.le_trans HL.out GB72.out) : Below w0.heap.size w0 w78));have n4_:=Aside0.mk (KeepBut.trans (by exact HK.out) (KeepBut.of_grown hg g) (Kd.R_base2 HO_5.out));clear HO_5;clear BK134;clear HI0;clear HB;clear HK;have HO_5:=n0_;have BK134:=n1_;have HI0:=n2_;have HB:=n3_;have HK:=n4_;clear n0_ n1_ n2_ n3_ n4_;clear hg hw hp_))
              go_ret
              exact ⟨_,by rfl,by exact Kd.R_mono HO_5.out (fun _ hk => trivial),by exact HI0.out,by exact HB.out,by exact HK.out⟩
             ·rw [if_neg c71] at H
              exact absurd H (by simp)
            ·rw [if_neg c70] at H
             exact absurd H (by simp)
        ·rw [if_neg c57] at H
         have c57b0 : (t135 == 2) = false:=beq_eq_false_iff_ne.mpr c57
         have c57b1 : (t135 != 2) = true:=bne_iff_ne.mpr c57
         obtain ⟨y159,hy159⟩ : ∃ y_ : List (S60),y_ = (x5_1.set (t130 : Int).toNat (⟨(rd_T60 x5_1 t130).f0,(rd_T60 x5_1 t130).f1⟩ : S60)):=⟨_,rfl⟩
         replace H : (some (y159,t136,t137)) = some (r1,r2,r3):=by (rw [hy159];with_reducible exact H)
         have Ny159:=Aside0.mk hy159
         clear hy159
         simp only [Option.some.injEq,Prod.mk.injEq] at H
         obtain ⟨rfl,rfl,rfl⟩ := H
         obtain ⟨Ao80,co80,eo80⟩ := Kd.R_slice HO_5.out
         subst eo80
         go_wp2_with (first | ((with_reducible refine gate_callee (f:=21) rfl ?_);refine goesL_ (some 31) rfl rfl Try.func21 (by kernel_rfl) rfl #[.pointer (some ⟨g,0,none⟩), .int .i64 (x5_1.length : Int)] rfl (by (try simp only [List.map_toArray,List.map_cons,List.map_nil]);rfl) ?_;(with_reducible refine (spec_l1Cur_pick.calls g s0_0 x1001_1 x1002_1 (x5_1.length : Int) t130 t131 t132 w0 _ ?side1 ?side2 A17.out).mono ?_);(case side1 => exact HI0.out);(case side2 => exact HB.out);rintro e w81 ⟨rfl,hi,hb,hk⟩;refine ⟨_,rfl, ?_⟩;have n0_:=Aside0.mk (Kd.R_mono (Kd.R_keep (IsS46.apart (show IsS46 w0 _ g s0_0 x1001_1 x1002_1 from by exact HI0.out) (by exact HO_5.out) (by decide)) hk (fun _ h => h.2)) (fun _ h => h.1));have n1_:=Aside0.mk (KeepBut.trans (by exact HK.out) hk (.inl rfl));have n2_:=Aside0.mk (hb);have n3_:=Aside0.mk (hi);clear HO_5;clear HK;clear HB;clear HI0;have HO_5:=n0_;have HK:=n1_;have HB:=n2_;have HI0:=n3_;clear n0_ n1_ n2_ n3_;(try clear hb);(try clear hk);(try clear hi);have p133 : 0 ≤ (t130 : Int):=of_decide_eq_true (by (with_reducible assumption));have q133 : t130 < (x5_1.length : Int):=of_decide_eq_true (by (with_reducible assumption));obtain ⟨ad133,e133,hx133_0,hx133_1⟩ := at_T60 (Kd.R_reads' HO_5.out).2.2 t130 p133 q133;cases e133;replace p133:=eq_true p133;replace q133:=eq_true q133) | ((with_reducible refine gate_dst (N:=8) rfl ?_);refine box_event ?hg (N:=8) ?hd (cs:=#[.int .i64 0, .int .i64 0]) (t:=60) ?hr ?_;(case hd => rfl);(case hg => rfl);(case hr => (go_simp;done));intro gb134 hg w82 hbox hb;have n0_:=Aside0.mk (Kd.R_below (Kd.R_elderB (by exact HO_5.out) gb134 (Nat.le_of_eq hg.symm)) hb);have n1_:=Aside0.mk (IsS46.below (by exact HI0.out) hb);have n2_:=Aside0.mk (KeepBut.trans (by exact HK.out) (KeepBut.of_below hb g none) (.inl rfl));have n3_:=Aside0.mk (below_step (by exact HB.out) hb);have n4_:=Aside0.mk (hbox);have n5_:=Aside0.mk ((by rw [hg];exact (keep_size (w:=w) (g:=g) (row:=none) (by exact HK.out)) : w.heap.size ≤ gb134));have n6_:=Aside0.mk ((Nat.le_trans HW0.out (by rw [hg];exact (keep_size (w:=w) (g:=g) (row:=none) (by exact HK.out)) : w.heap.size ≤ gb134) : w0.heap.size ≤ gb134));have n7_:=Aside0.mk ((by rw [hg];exact Nat.ne_of_lt (IsS46.lt (show IsS46 w0 _ g s0_0 t131 t132 from by exact HI0.out)) : g ≠ gb134));have n8_:=Aside0.mk ((by rw [hg];exact Nat.ne_of_gt (IsS46.lt (show IsS46 w0 _ g s0_0 t131 t132 from by exact HI0.out)) : gb134 ≠ g));clear HO_5;clear HI0;clear HK;clear HB;have HO_5:=n0_;have HI0:=n1_;have HK:=n2_;have HB:=n3_;have BK134:=n4_;have GW134:=n5_;have GE134:=n6_;have NB0_134:=n7_;have NB134_0:=n8_;clear n0_ n1_ n2_ n3_ n4_ n5_ n6_ n7_ n8_;clear hb hbox hg;have hnb83:=NB134_0.out;have hnc83:=NB0_134.out;have hcz84_0 : w82.cell? ⟨gb134,0,none⟩ = some (.int .i64 0):=(blk_cell BK134.out 0).trans rfl;have hcz84_1 : w82.cell? ⟨gb134,1,none⟩ = some (.int .i64 0):=(blk_cell BK134.out 1).trans rfl;have hfz84_0:=blk_frozen BK134.out 0;have hfz84_1:=blk_frozen BK134.out 1) | ((with_reducible refine gate_callee (f:=21) rfl ?_);refine goesL_ (some 37) rfl rfl Try.func21 (by kernel_rfl) rfl #[.pointer (some ⟨g,0,none⟩), .int .i64 40] rfl (by (try simp only [List.map_toArray,List.map_cons,List.map_nil]);rfl) ?_;(with_reducible refine (spec_l1Cur_pick.calls g s0_0 t131 t132 40 t135 t136 t137 w0 _ ?side1 ?side2 A20.out).mono ?_);(case side1 => repeat ((with_reducible first | exact HI0.out | refine IsS46.far ?_ NB0_134.out _)));(case side2 => repeat ((with_reducible first | exact HB.out | refine below_set ?_ GE134.out)));rintro e w85 ⟨rfl,hi,hb,hk⟩;refine ⟨_,rfl, ?_⟩;have n0_:=Aside0.mk (Kd.R_mono (Kd.R_keep (IsS46.apart (show IsS46 w0 _ g s0_0 t131 t132 from by repeat ((with_reducible first | exact HI0.out | refine IsS46.far ?_ NB0_134.out _))) (by exact (Kd.R_mono (Kd.R_far (p:=⟨gb134,1,none⟩) (Kd.R_far (p:=⟨gb134,0,none⟩) (Kd.R_mono HO_5.out (fun k_ hk => (⟨hk,hk.2⟩ : _ ∧ k_ ≠ gb134))) (fun _ hk => hk.2) (.int .i64 ((rd_T60 x5_1 t130).f0))) (fun _ hk => hk.2) (.int .i64 ((rd_T60 x5_1 t130).f1))) (fun _ h_ => h_.1))) (by decide)) hk (fun _ h => h.2)) (fun _ h => h.1));have n1_:=Aside0.mk (KeepBut.blk hk (g':=gb134) (o := .cells #[.int .i64 ((rd_T60 x5_1 t130).f0), .int .i64 ((rd_T60 x5_1 t130).f1)] 60 (0,0)) (by refine blk_put (cs:=#[.int .i64 ((rd_T60 x5_1 t130).f0), .int .i64 0]) ?_ 1 _ rfl;refine blk_put (cs:=#[.int .i64 0, .int .i64 0]) ?_ 0 _ rfl;exact BK134.out) NB134_0.out (by simp));have n2_:=Aside0.mk (KeepBut.trans (by repeat ((with_reducible first | exact HK.out | refine keep_far ?_ GW134.out _))) hk (.inl rfl));have n3_:=Aside0.mk (hb);have n4_:=Aside0.mk (hi);clear HO_5;clear BK134;clear HK;clear HB;clear HI0;have HO_5:=n0_;have BK134:=n1_;have HK:=n2_;have HB:=n3_;have HI0:=n4_;clear n0_ n1_ n2_ n3_ n4_;(try clear hb);(try clear hk);(try clear hi);have hcz86_0 : w85.cell? ⟨gb134,0,none⟩ = some (.int .i64 ((rd_T60 x5_1 t130).f0)):=(blk_cell BK134.out 0).trans rfl;have hcz86_1 : w85.cell? ⟨gb134,1,none⟩ = some (.int .i64 ((rd_T60 x5_1 t130).f1)):=(blk_cell BK134.out 1).trans rfl;have hfz86_0:=blk_frozen BK134.out 0;have hfz86_1:=blk_frozen BK134.out 1;have p79 : 0 ≤ (t130 : Int):=of_decide_eq_true (by (with_reducible assumption));have q79 : (t130 : Int) < ((x5_1.length : Int) : Int):=of_decide_eq_true (by (with_reducible assumption));obtain ⟨go79,co79,eo79,gb79,gl79,cl79,HG79⟩ := Kd.R_form HO_5.out (by omega);(cases eo79);have GB79:=Aside0.mk gb79;have GG79:=Aside0.mk HG79;clear gb79 gl79 HG79;(simp only [add_plain] at hx133_0);(simp only [add_plain] at hx133_1);obtain ⟨ce79,hcl79,hM79,hcc79,hfr79⟩ := Kd.R_elem HO_5.out z60 (t130 : Int) p79 q79;obtain rfl:=k60_openM hM79;have hx79_0 : w85.cell? ⟨go79,(t130 : Int).toNat * 2,none⟩ = some (.int .i64 ((rd_T60 x5_1 t130).f0)):=hcc79 0 _ rfl;have hx79_1 : w85.cell? ⟨go79,(t130 : Int).toNat * 2 + 1,none⟩ = some (.int .i64 ((rd_T60 x5_1 t130).f1)):=hcc79 1 _ rfl;have hf79_0 : w85.frozen? ⟨go79,(t130 : Int).toNat * 2,none⟩ = false:=hfr79 0;have hf79_1 : w85.frozen? ⟨go79,(t130 : Int).toNat * 2 + 1,none⟩ = false:=hfr79 1;clear hcl79 hcc79 hfr79;(try clear hM79);replace p79:=eq_true p79;replace q79:=eq_true q79;have n_:=Aside0.mk (Kd.R_mono (ok':=(fun k_ => k_ ≠ gb134)) HO_5.out (fun k_ hk => hk.2));clear HO_5;have HO_5:=n_;clear n_;have HX87:=Aside0.mk (show Kd.R k60 60 w85 w.heap.size (fun k_ => k_ ≠ gb134) (.slice (some ⟨go79,0,none⟩) x5_1.length co80) x5_1 from (by exact HO_5.out));obtain ⟨ce87,hcl87,hM87,hcc87,hfr87⟩ := Kd.R_elem HX87.out z60 (t130 : Int) (of_decide_eq_true (by (with_reducible assumption))) (by have h_ : (t130 : Int) < ((x5_1.length : Int) : Int):=of_decide_eq_true (by (with_reducible assumption));exact h_);obtain rfl:=k60_openM hM87;have HP87:=Kd.R_seg HX87.out (t130 : Int) (of_decide_eq_true (by (with_reducible assumption))) (by have h_ : (t130 : Int) < ((x5_1.length : Int) : Int):=of_decide_eq_true (by (with_reducible assumption));exact h_) (seg := [.int .i64 ((rd_T60 x5_1 t130).f0), .int .i64 ((rd_T60 x5_1 t130).f1)]) (j:=0) hcl87 hcc87 (show 2 ≤ 2 from by decide) (x':=(⟨(rd_T60 x5_1 t130).f0,(rd_T60 x5_1 t130).f1⟩ : S60)) (k60_mkM _ _ _ (⟨(rd_T60 x5_1 t130).f0,(rd_T60 x5_1 t130).f1⟩ : S60) ) (fun _ hk => hk);have hx87_0:=hcc87 0 _ rfl;(try simp only [show (k60).sz = 2 from rfl,Nat.mul_one,Nat.add_zero] at hx87_0);have hf87_0:=hfr87 0;(try simp only [show (k60).sz = 2 from rfl,Nat.mul_one,Nat.add_zero] at hf87_0);have hx87_1:=hcc87 1 _ rfl;(try simp only [show (k60).sz = 2 from rfl,Nat.mul_one,Nat.add_zero] at hx87_1);have hf87_1:=hfr87 1;(try simp only [show (k60).sz = 2 from rfl,Nat.mul_one,Nat.add_zero] at hf87_1);clear hcl87 hcc87 hfr87;(try clear hM87)) | ((with_reducible refine gate_store (t:=60) (p:=65) rfl ?_);refine store_event (t:=60) (p:=65) (v:=?vo_w88) (w1:=((w85.setCell ⟨go79,(t130 : Int).toNat * 2,none⟩ (.int .i64 ((rd_T60 x5_1 t130).f0))).setCell ⟨go79,(t130 : Int).toNat * 2 + 1,none⟩ (.int .i64 ((rd_T60 x5_1 t130).f1)))) ?hg ?ho ?hn ?hr ?_;(case ho => rfl);(case hg => rfl);(case hn => rfl);(case hr => (go_simp;done));intro w88 hw;have hg : w85.grownBy w88 (some go79):=(by rw [hw];exact HP87.2);have hp_ : Kd.R k60 60 w88 w.heap.size (fun k_ => k_ ≠ gb134) (.slice (some ⟨go79,0,none⟩) x5_1.length co80) y159:=(by rw [hw,Ny159.out];exact HP87.1);clear HP87;have n0_:=Aside0.mk (hp_);have n1_:=Aside0.mk (IsS46.grown (by exact HI0.out) hg (IsS46.own_ne HI0.out HO_5.out (by decide)));have n2_:=Aside0.mk (blk_grown (g:=gb134) (o := .cells #[.int .i64 ((rd_T60 x5_1 t130).f0), .int .i64 ((rd_T60 x5_1 t130).f1)] 60 (0,0)) (by exact BK134.out) hg (Kd.R_away HO_5.out (fun _ hk => hk)));have n3_:=Aside0.mk ((by rw [hw];exact below_set (below_set (HB.out) (Nat.le_trans HL.out GB79.out)) (Nat.le_trans HL.out GB79.out) : Below w0.heap.size w0 w88));have n4_:=Aside0.mk (KeepBut.trans (by exact HK.out) (KeepBut.of_grown hg g) (Kd.R_base2 HO_5.out));clear HO_5;clear HI0;clear BK134;clear HB;clear HK;have HO_5:=n0_;have HI0:=n1_;have BK134:=n2_;have HB:=n3_;have HK:=n4_;clear n0_ n1_ n2_ n3_ n4_;clear hg hw hp_))
         go_ret
         exact ⟨_,by rfl,by exact Kd.R_mono HO_5.out (fun _ hk => trivial),by exact HI0.out,by exact HB.out,by exact HK.out⟩
     ·rw [if_neg c19] at H
      exact absurd H (by simp)
    ·rw [if_neg c18] at H
     exact absurd H (by simp)

/-! ### spec_l2Find: function 25 -/
def spec_l2Find.l0 : Nat → List (S33) → ByteArray → Int → Option (Int)
 | 0,_,_,_ => none
 | k + 1,x0,x1,x5 => if x5 < (x0.length : Int) then (if 0 ≤ x5 then (if ((rd_T33 x0 x5).f0).toList = x1.toList then (some x5) else (spec_l2Find.l0 k x0 x1 (wrap64 (x5 + 1)))) else (none)) else (some (-1))
def spec_l2Find.f (k : Nat) (l0 : List (S33)) (a1 : ByteArray) : Option (Int):=spec_l2Find.l0 k l0 a1 0
theorem spec_l2Find.mono_l : ∀ k,(∀ y0 y1 y2,LeO (spec_l2Find.l0 k y0 y1 y2) (spec_l2Find.l0 (k + 1) y0 y1 y2))
 | 0 => fun _ _ _ r h => by simp [spec_l2Find.l0] at h
 | k + 1 => by
  have ih0:=spec_l2Find.mono_l k
  ·intro y0 y1 y2
   unfold spec_l2Find.l0
   repeat' first
   | (with_reducible exact ih0 _ _ _)
   | (with_reducible exact LeO.refl _)
   | (with_reducible exact LeO.none _)
   | (with_reducible refine LeO.ite ?_ ?_)
   | (with_reducible refine LeO.bind ?_ (fun _ => ?_))
   | exact ih0 _ _ _
   | exact LeO.none _
   | refine LeO.ite ?_ ?_
   | refine LeO.bind ?_ (fun _ => ?_)
theorem spec_l2Find.mono : ∀ a0 a1 k,LeO (spec_l2Find.f k a0 a1) (spec_l2Find.f (k + 1) a0 a1):=by
 intro a0 a1 k
 have ih0:=spec_l2Find.mono_l k
 unfold spec_l2Find.f
 repeat' first
   | (with_reducible exact ih0 _ _ _)
   | (with_reducible exact LeO.refl _)
   | (with_reducible exact LeO.none _)
   | (with_reducible refine LeO.ite ?_ ?_)
   | (with_reducible refine LeO.bind ?_ (fun _ => ?_))
   | exact ih0 _ _ _
   | exact LeO.none _
   | refine LeO.ite ?_ ?_
   | refine LeO.bind ?_ (fun _ => ?_)
set_option maxHeartbeats 8000000 in
set_option maxRecDepth 100000 in
theorem spec_l2Find.calls (k : Nat) (A0 : Option Addr) (c0 : Nat) (l0 : List (S33)) (a1 : ByteArray) (r : Int) (w : World) (hr0 : Kd.C k33 w A0 l0.length l0) (hc0 : l0.length ≤ c0) (h : spec_l2Find.f k l0 a1 = some r) :
  Calls Try.prog 25 #[.slice A0 l0.length c0, .string a1] w fun e w' => e = .returned (.int .i64 r) ∧ Drawn0 w w':=by
 have HR0:=Aside0.mk hr0
 have HC0:=Aside0.mk hc0
 clear hr0 hc0
 have H : (spec_l2Find.l0 k l0 a1 0) = some r:=h
 clear h
 have H':=Aside0.mk H
 clear H
 go_enter Try.func25,Try.ntmps25
 go_wp2
 go_loopg [5] k (fun kq v5 w' => ∃ (x5_1 : Int),v5 = .int .i64 x5_1 ∧ Aside0 (spec_l2Find.l0 kq l0 a1 x5_1 = some r) ∧ Aside0 (kq ≤ k) ∧ Drawn0 w w')
 case atStart => exact ⟨(0),(by rfl),H',⟨Nat.le_refl _⟩,by repeat (exact Drawn0.refl _)⟩
 case round =>
  clear H'
  try clear c2
  try clear p2
  obtain ⟨x5_1,rfl,HA,HK1,⟨m1,rfl⟩⟩ := hrel
  cases gk with
  | zero => exact absurd HA.out (by simp [spec_l2Find.l0])
  | succ k1 =>
   have H:=HA.out
   clear HA
   simp only [spec_l2Find.l0] at H
   by_cases c3 : x5_1 < (l0.length : Int)
   ·rw [if_pos c3] at H
    have c3b0 : decide (x5_1 < (l0.length : Int)) = true:=decide_eq_true c3
    clear c3
    by_cases c4 : 0 ≤ x5_1
    ·rw [if_pos c4] at H
     have c4b0 : decide (0 ≤ x5_1) = true:=decide_eq_true c4
     clear c4
     by_cases c5 : ((rd_T33 l0 x5_1).f0).toList = a1.toList
     ·rw [if_pos c5] at H
      have c5b0 : (((rd_T33 l0 x5_1).f0).toList == a1.toList) = true:=beq_iff_eq.mpr c5
      have c5b1 : (((rd_T33 l0 x5_1).f0).toList != a1.toList) = false:=bne_eq_false_iff_eq.mpr c5
      clear c5
      obtain rfl:=Option.some.inj H
      have p160 : 0 ≤ (x5_1 : Int):=of_decide_eq_true (by (with_reducible assumption))
      have q160 : x5_1 < (l0.length : Int):=of_decide_eq_true (by (with_reducible assumption))
      obtain ⟨ad160,e160,hx160_0,hx160_1,hx160_2,hx160_3,hx160_4⟩ := at_T33 HR0.out x5_1 p160 q160
      cases e160
      replace p160:=eq_true p160
      replace q160:=eq_true q160
      go_wp2
      go_ret
      exact ⟨by rfl,by repeat (first | exact Drawn0.refl _ | apply Drawn0.step)⟩
     ·rw [if_neg c5] at H
      have c5b0 : (((rd_T33 l0 x5_1).f0).toList == a1.toList) = false:=beq_eq_false_iff_ne.mpr c5
      have c5b1 : (((rd_T33 l0 x5_1).f0).toList != a1.toList) = true:=bne_iff_ne.mpr c5
      have H':=Aside0.mk H
      clear H
      have p160 : 0 ≤ (x5_1 : Int):=of_decide_eq_true (by (with_reducible assumption))
      have q160 : x5_1 < (l0.length : Int):=of_decide_eq_true (by (with_reducible assumption))
      obtain ⟨ad160,e160,hx160_0,hx160_1,hx160_2,hx160_3,hx160_4⟩ := at_T33 HR0.out x5_1 p160 q160
      cases e160
      replace p160:=eq_true p160
      replace q160:=eq_true q160
      go_wp2
      go_roundg k1
      case measure => have:=HK1.out;omega
      case rel => exact ⟨(wrap64 (x5_1 + 1)),(by rfl),H',⟨by have:=HK1.out;omega⟩,by repeat (first | exact Drawn0.refl _ | apply Drawn0.step)⟩
    ·rw [if_neg c4] at H
     exact absurd H (by simp)
   ·rw [if_neg c3] at H
    have c3b0 : decide (x5_1 < (l0.length : Int)) = false:=decide_eq_false c3
    clear c3
    obtain rfl:=Option.some.inj H
    go_wp2
    go_ret
    exact ⟨by rfl,by repeat (first | exact Drawn0.refl _ | apply Drawn0.step)⟩

end Go.Proofs.Ytempmebpbbbkmaa.PFnWagons
