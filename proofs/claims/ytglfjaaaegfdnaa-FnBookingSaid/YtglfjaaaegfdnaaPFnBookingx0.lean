-- Written by a program of this session, over the kit's print (wip/xprint.py)
import Derived.Test.YtglfjaaaegfdnaaProg
import Derived.Below
import Derived.Deep.Draws
import Derived.Deep.AppendLies
import Derived.Maps.AppendAt
import Derived.OwnWalk
import Derived.Laws.BytesArg
import Derived.Laws.MakeOwn
import Derived.Laws.OwnMore
import Derived.Deep.OwnRows
import Derived.Tactics
import Derived.Lib.ConvBytes
import Derived.Laws.Slices
import Derived.WalkKit
import Derived.KernelRfl
import Derived.RowKit3
import Derived.Deep.LoopGhost
import Derived.Deep.QuietTactic
import Derived.BigQuiet
import Derived.WideLaws
import Derived.Deep.DeepCutAuto
import Derived.Deep.CutBlock
import Derived.Deep.RegionHeld3
import Derived.Laws.Rows
import Derived.Lib.AppendStr
import Derived.ArgAppend
import Derived.Laws.IdiomCopy
import Derived.OrdersHeld
import Derived.Laws.BitsLemmas
import Derived.RowKit
import Derived.WalkSpells
import Derived.Lib.SliceRun
import Derived.Test.YtglfjaaaegfdnaaWHelp
import Derived.Test.YtglfjaaaegfdnaaWWalk
import Derived.Test.YtglfjaaaegfdnaaWMapW
import Derived.Test.YtglfjaaaegfdnaaWClos
import Derived.Test.YtglfjaaaegfdnaaWMapI
import Derived.Test.YtglfjaaaegfdnaaWGate
import Derived.Test.YtglfjaaaegfdnaaWGateI
import Derived.Test.YtglfjaaaegfdnaaShelf
import Derived.Lib.Join
import Derived.Carry
import Derived.Test.YtglfjaaaegfdnaaWWords
import Derived.Test.YtglfjaaaegfdnaaWLast
import Derived.Test.YtglfjaaaegfdnaaWTab
import Derived.Test.YtglfjaaaegfdnaaWFour
import Derived.Test.YtglfjaaaegfdnaaWQPut
import Derived.Test.YtglfjaaaegfdnaaWApart
import Derived.Test.YtglfjaaaegfdnaaWArr
import Derived.Test.YtglfjaaaegfdnaaWZeros
import Derived.Test.YtglfjaaaegfdnaaWFoot
import Derived.Test.YtglfjaaaegfdnaaWKept
import Derived.Test.YtglfjaaaegfdnaaWShare
import Derived.Test.YtglfjaaaegfdnaaWN
import Derived.Test.YtglfjaaaegfdnaaWFootNe
import Derived.Test.YtglfjaaaegfdnaaWAt
import Derived.Test.YtglfjaaaegfdnaaWEqStruct
import Derived.Test.YtglfjaaaegfdnaaWRepsOne
import Derived.Test.YtglfjaaaegfdnaaWInv
import Derived.Test.YtglfjaaaegfdnaaWInvWords
import Derived.Test.YtglfjaaaegfdnaaWGuard
import Derived.Test.YtglfjaaaegfdnaaWNEv
import Derived.Test.YtglfjaaaegfdnaaWMore
namespace Go.Proofs.Ytglfjaaaegfdnaa.PFnBooking
open Go.RowKit Go.Proofs.YtglfjaaaegfdnaaW.PrintWords Go.Proofs.YtglfjaaaegfdnaaW.PrintLast Go.Proofs.YtglfjaaaegfdnaaW.PrintMore
attribute [local go_sem] max2_int min2_int max_two min_two max_three min_three max_four min_four   -- for this text's walks alone
set_option linter.unusedVariables false
set_option linter.unusedSimpArgs false



def errW : Option Int → Value
 | none => .nilIface
 | some c => .iface 0 (.int .i64 c)
theorem errW_none : errW none = .nilIface:=rfl
theorem errW_some (c : Int) : errW (some c) = .iface 0 (.int .i64 c):=rfl

theorem info3 : (Try.prog.info? 3).map (fun i => (i.zero,i.size,i.bytes)) = some (some (.int .i64 0),1,8):=by kernel_rfl
theorem info24 : (Try.prog.info? 24).map (fun i => (i.zero,i.size,i.bytes)) = some (some (.slice none 0 0),1,24):=by kernel_rfl
def rd_L2 (xs : List (List Int)) (i : Int) : (List Int):=xs.getD i.toNat ([] : List Int)
theorem at_L2 {w : World} {A : Option Addr} {n : Nat} {xs : List (List Int)} (h : Kd.C (Kd.slice 3 (Kd.int .i64)) w A n xs) (i : Int) (h0 : 0 ≤ i) (h1 : i < n) : ∃ ad A0 c0,A = some ad ∧ w.cell? (ad.add i.toNat) = some (.slice A0 (rd_L2 xs i).length c0) ∧ (rd_L2 xs i).length ≤ c0 ∧ (Kd.int .i64).C w A0 (rd_L2 xs i).length (rd_L2 xs i):=by
 obtain ⟨ad,c,e,_,hK,hc0⟩ := Kd.C_get h ([] : List Int) i h0 h1;have hc : ∀ j u,c[j]? = some u → w.cell? (ad.add (i.toNat * 1 + j)) = some u:=hc0;obtain ⟨A0,c0,rfl,l0,g0⟩ := hK
 exact ⟨ad,A0,c0,e,by have hq:=hc 0 _ rfl;rwa [Nat.mul_one,Nat.add_zero] at hq,l0,g0⟩

theorem sA_ {α : Type} (xs : List α) (i : Nat) (a : α) : xs.toArray.setIfInBounds i a = (xs.set i a).toArray:=List.setIfInBounds_toArray ..
theorem s0_ {α : Type} {x y : α} {xs : List α} : (x :: xs).set 0 y = y :: xs:=List.set_cons_zero ..
theorem s1_ {α : Type} {x y : α} {xs : List α} {n : Nat} : (x :: xs).set (n + 1) y = x :: xs.set n y:=List.set_cons_succ ..
theorem am_ {p : Prop} (h : p) : Aside0 p := ⟨h⟩
theorem ge_ {w0 W : World} {g : Nat} (hg : g = W.heap.size) (h : Below w0.heap.size w0 W) : w0.heap.size ≤ g := by
 rw [hg]
 exact h.size
theorem nl_ {W : World} {a b : Nat} {o : Obj} (hg : b = W.heap.size) (h : W.heap[a]? = some o) : a ≠ b := by
 rw [hg]
 exact Nat.ne_of_lt (blk_lt h)
theorem ng_ {W : World} {a b : Nat} {o : Obj} (hg : b = W.heap.size) (h : W.heap[a]? = some o) : b ≠ a := by
 rw [hg]
 exact Nat.ne_of_gt (blk_lt h)
theorem c1_0 {w : World} {g t : Nat} {v0 : Value} (h : w.heap[g]? = some (.cells #[v0] t (0,0))) : w.cell? ⟨g,0,none⟩ = some v0 := (blk_cell h 0).trans rfl
theorem c2_0 {w : World} {g t : Nat} {v0 v1 : Value} (h : w.heap[g]? = some (.cells #[v0,v1] t (0,0))) : w.cell? ⟨g,0,none⟩ = some v0 := (blk_cell h 0).trans rfl
theorem c2_1 {w : World} {g t : Nat} {v0 v1 : Value} (h : w.heap[g]? = some (.cells #[v0,v1] t (0,0))) : w.cell? ⟨g,1,none⟩ = some v1 := (blk_cell h 1).trans rfl
theorem c3_0 {w : World} {g t : Nat} {v0 v1 v2 : Value} (h : w.heap[g]? = some (.cells #[v0,v1,v2] t (0,0))) : w.cell? ⟨g,0,none⟩ = some v0 := (blk_cell h 0).trans rfl
theorem c3_1 {w : World} {g t : Nat} {v0 v1 v2 : Value} (h : w.heap[g]? = some (.cells #[v0,v1,v2] t (0,0))) : w.cell? ⟨g,1,none⟩ = some v1 := (blk_cell h 1).trans rfl
theorem c3_2 {w : World} {g t : Nat} {v0 v1 v2 : Value} (h : w.heap[g]? = some (.cells #[v0,v1,v2] t (0,0))) : w.cell? ⟨g,2,none⟩ = some v2 := (blk_cell h 2).trans rfl
theorem c4_0 {w : World} {g t : Nat} {v0 v1 v2 v3 : Value} (h : w.heap[g]? = some (.cells #[v0,v1,v2,v3] t (0,0))) : w.cell? ⟨g,0,none⟩ = some v0 := (blk_cell h 0).trans rfl
theorem c4_1 {w : World} {g t : Nat} {v0 v1 v2 v3 : Value} (h : w.heap[g]? = some (.cells #[v0,v1,v2,v3] t (0,0))) : w.cell? ⟨g,1,none⟩ = some v1 := (blk_cell h 1).trans rfl
theorem c4_2 {w : World} {g t : Nat} {v0 v1 v2 v3 : Value} (h : w.heap[g]? = some (.cells #[v0,v1,v2,v3] t (0,0))) : w.cell? ⟨g,2,none⟩ = some v2 := (blk_cell h 2).trans rfl
theorem c4_3 {w : World} {g t : Nat} {v0 v1 v2 v3 : Value} (h : w.heap[g]? = some (.cells #[v0,v1,v2,v3] t (0,0))) : w.cell? ⟨g,3,none⟩ = some v3 := (blk_cell h 3).trans rfl
theorem rf2_ {α : Type} {d : Kd α} {e base g : Nat} {ok : Nat → Prop} {w : World} {v : Value} {xs : List α} (h : d.R e w base (fun k => ok k ∧ k ≠ g) v xs) (a0 a1 : Value) : d.R e ((w.setCell ⟨g,0,none⟩ a0).setCell ⟨g,1,none⟩ a1) base (fun k => ok k ∧ k ≠ g) v xs := (Kd.R_far (p:=⟨g,1,none⟩) (Kd.R_far (p:=⟨g,0,none⟩) h (fun _ hk => hk.2) a0) (fun _ hk => hk.2) a1)
theorem rf3_ {α : Type} {d : Kd α} {e base g : Nat} {ok : Nat → Prop} {w : World} {v : Value} {xs : List α} (h : d.R e w base (fun k => ok k ∧ k ≠ g) v xs) (a0 a1 a2 : Value) : d.R e (((w.setCell ⟨g,0,none⟩ a0).setCell ⟨g,1,none⟩ a1).setCell ⟨g,2,none⟩ a2) base (fun k => ok k ∧ k ≠ g) v xs := (Kd.R_far (p:=⟨g,2,none⟩) (Kd.R_far (p:=⟨g,1,none⟩) (Kd.R_far (p:=⟨g,0,none⟩) h (fun _ hk => hk.2) a0) (fun _ hk => hk.2) a1) (fun _ hk => hk.2) a2)
theorem bn_ {α β : Type} {o : Option α} {f : α → Option β} {r : β} (H : o.bind f = some r) : ∃ t, Aside0 (o = some t) ∧ f t = some r := by
 obtain ⟨t, h, g⟩ := Option.bind_eq_some_iff.mp H
 exact ⟨t, ⟨h⟩, g⟩
theorem sb_ {α β : Type} {x : α} {f : α → Option β} {r : β} (H : (some x).bind f = some r) : ∃ y, Aside0 (y = x) ∧ f y = some r := ⟨x, ⟨rfl⟩, H⟩
section
variable {α : Type} {c : Prop} [Decidable c] {t : Bool} {x y : Option α} {r : α}
theorem ic_ (H : (if c then x else y) = some r) : (c ∧ x = some r) ∨ (¬ c ∧ y = some r) := by
 by_cases h : c
 · exact .inl ⟨h, by rw [if_pos h] at H; exact H⟩
 · exact .inr ⟨h, by rw [if_neg h] at H; exact H⟩
theorem if_ (H : (if c then x else y) = some r) : (¬ c ∧ y = some r) ∨ (c ∧ x = some r) := (ic_ H).symm
theorem id_ (H : (if c then x else y) = some r) : (decide c = true ∧ x = some r) ∨ (decide c = false ∧ y = some r) := (ic_ H).imp (fun h => ⟨decide_eq_true h.1, h.2⟩) (fun h => ⟨decide_eq_false h.1, h.2⟩)
theorem ie_ (H : (if c then x else y) = some r) : (decide c = false ∧ y = some r) ∨ (decide c = true ∧ x = some r) := (id_ H).symm
theorem ip_ (H : (if c then x else none) = some r) : c ∧ x = some r := by
 rcases ic_ H with h | h
 · exact h
 · cases h.2
theorem iq_ (H : (if c then x else none) = some r) : decide c = true ∧ x = some r := ⟨decide_eq_true (ip_ H).1, (ip_ H).2⟩
theorem ib_ (H : (if t = true then x else y) = some r) : (t = true ∧ x = some r) ∨ (t = false ∧ y = some r) := (ic_ H).imp id (fun h => ⟨Bool.eq_false_iff.mpr h.1, h.2⟩)
theorem jb_ (H : (if t = true then x else y) = some r) : (t = false ∧ y = some r) ∨ (t = true ∧ x = some r) := (ib_ H).symm
end
section
variable {P : Program} {ops : Array Oper} {Q : Exit → Act → World → Prop} {md : Region.Mode} {S : World → Prop} {ds : List Nat} {oi : Oper} {v : Value} {fuel : Nat} {l : Array Bool} {a a' : Act} {w : World} {T : Bool × List (List Nat × List Nat)} {M : List Nat}
theorem ai_ {p q r : Prop} (f : p → q → r) : p ∧ q → r := fun h => f h.1 h.2
theorem tl_ (l : Array Bool) (i : Nat) : (l.toList.set i true == (l.setIfInBounds i true).toList) = true := by
 rw [beq_iff_eq, Array.toList_setIfInBounds]
theorem p_ (i : Nat) (N : Tmp) (hT : Aside0 (rtab md ops = T)) (h : wpAnyLast P md ops Q S ds fuel (l.setIfInBounds i true) a' w) (hi : ops[i]? = some oi := by exact rfl) (hN : oi.dst = some N := by exact rfl) (hc : (T.1 && freeT T.2 l.toList i && readyAt T.2 l.toList i) = true := by kernel_rfl)
  (hQ : ∀ c a w, Q (.panic c) (a.put oi.dst v) w → Q (.panic c) a w := by exact fun _ _ _ h => h) (hy : Yields P ops oi v a := by (refine Or.inl ⟨by rfl, ?_⟩; intro w'; go_simp; with_reducible rfl)) (ha : a.put (some N) v = a' := by (simp only [Act.put,sA_,s0_,s1_,i64_w,i32_w]; rfl)) : wpAnyLast P md ops Q S ds (fuel + 1) l a w :=
 pure_ (l.setIfInBounds i true) hi hN (any_of hT.out (by unfold anyT; rw [hc, Bool.true_and]; exact tl_ l i)) hQ hy ha h
theorem po_ (i : Nat) (N : Tmp) (hT : Aside0 (rtab md ops = T)) (h : wpAnyLast P md ops Q S ds fuel (l.setIfInBounds i true) a' w) (hi : ops[i]? = some oi := by exact rfl) (hN : oi.dst = some N := by exact rfl) (hc : (T.1 && freeT T.2 l.toList i && readyAt T.2 l.toList i) = true := by kernel_rfl)
  (hQ : ∀ c a w, Q (.panic c) (a.put oi.dst undef) w → Q (.panic c) a w := by exact fun _ _ _ h => h) (hy : Yields P ops oi undef a := by exact Or.inr ⟨by rfl,rfl⟩) (ha : a.put (some N) undef = a' := by (simp only [Act.put,sA_,s0_,s1_,i64_w,i32_w]; rfl)) : wpAnyLast P md ops Q S ds (fuel + 1) l a w :=
 pure_ (l.setIfInBounds i true) hi hN (any_of hT.out (by unfold anyT; rw [hc, Bool.true_and]; exact tl_ l i)) hQ hy ha h
theorem t_ (i : Nat) (N : Tmp) (hT : Aside0 (rtab md ops = T)) (hB : Aside0 (waitsOk T.2 M = true)) (hS : S w) (h : wpAnyLast P md ops Q S ds fuel (l.setIfInBounds i true) a' w) (hi : ops[i]? = some oi := by exact rfl) (hN : oi.dst = some N := by exact rfl) (hc : (T.1 && freeT T.2 l.toList i && readyAt T.2 l.toList i && closedT T.2 l.toList && lastW T.2 M l.toList ds i) = true := by kernel_rfl)
  (hQ : ∀ c a w, Q (.panic c) (a.put oi.dst v) w → Q (.panic c) a w := by exact fun _ _ _ h => h) (hy : YieldsIf P ops S oi v a := by (refine Or.inl ⟨by rfl, ?_⟩; intro w' _; go_simp; with_reducible rfl)) (ha : a.put (some N) v = a' := by (simp only [Act.put,sA_,s0_,s1_,i64_w,i32_w]; rfl)) : wpAnyLast P md ops Q S ds (fuel + 1) l a w :=
 take_ (l.setIfInBounds i true) hi hN (take_ofW hT.out hB.out (by unfold takeW; rw [hc, Bool.true_and]; exact tl_ l i)) hQ hy hS ha h
theorem o_ (i : Nat) (N : Option Tmp) (hT : Aside0 (rtab md ops = T)) (h : ∀ K : Act → World → Prop, Shut (∀ a' w', S w' → (S w' → wpAnyLast P md ops Q S ds fuel (l.setIfInBounds i true) a' w') → K a' w') → if Region.wanted oi (yielded ops a.tmps) = true then Oper.wp P oi a w K Q else K (a.put N undef) w)
  (hi : ops[i]? = some oi := by exact rfl) (hN : oi.dst = N := by exact rfl) (hc : (readyT T.2 l.toList == [i]) = true := by kernel_rfl) (hd : i ∉ ds := by decide) : wpAnyLast P md ops Q S ds (fuel + 1) l a w :=
 one_ (l.setIfInBounds i true) hi hN (one_of hT.out (by rw [hc, Bool.true_and]; exact tl_ l i)) hd h
theorem z_ (i : Nat) (N : Option Tmp) (hT : Aside0 (rtab md ops = T)) (h : ∀ K : Act → World → Prop, Shut (∀ a' w', wpAnyLast P md ops Q S ds fuel (l.setIfInBounds i true) a' w' → K a' w') → if Region.wanted oi (yielded ops a.tmps) = true then Oper.wp P oi a w K Q else K (a.put N undef) w)
  (hi : ops[i]? = some oi := by exact rfl) (hN : oi.dst = N := by exact rfl) (hc : (readyT T.2 l.toList == [i]) = true := by kernel_rfl) (hd : i ∈ ds := by decide) : wpAnyLast P md ops Q S ds (fuel + 1) l a w :=
 last_ (l.setIfInBounds i true) hi hN (one_of hT.out (by rw [hc, Bool.true_and]; exact tl_ l i)) hd h
theorem d_ {n : Nat} (hT : Aside0 (rtab md ops = T)) (h : Q .normal a w) (hr : (readyT T.2 l.toList == []) = true := by kernel_rfl) : wpAnyLast P md ops Q S ds n l a w := done_ (done_of hT.out hr) h
theorem st_ {id : Nat} (n : Nat) (S : World → Prop) (ds : List Nat) (hT : rtab .any ops = T) (hB : waitsOk T.2 M = true) (hS : S w.drew) (h : S w.drew → Aside0 (rtab .any ops = T) → Aside0 (waitsOk T.2 M = true) → wpAnyLast P .any ops Q S ds n (Array.replicate n false) a w.drew)
  (hm : P.follows .mixedOrders = true := by kernel_rfl) (hn : ops.size = n := by exact rfl) : (Code.region id ops true).wp P Q a w :=
 start_ _ hm hn rfl hS (fun g => h g ⟨hT⟩ ⟨hB⟩)
end
end Go.Proofs.Ytglfjaaaegfdnaa.PFnBooking
