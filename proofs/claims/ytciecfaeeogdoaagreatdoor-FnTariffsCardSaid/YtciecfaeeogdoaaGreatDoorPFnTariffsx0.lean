-- Written by a program of this session, over the kit's print (wip/xprint.py)
import Derived.Test.YtciecfaeeogdoaaGreatDoorProg
import Derived.Below
import Derived.Deep.Draws
import Derived.Deep.AppendLies
import Derived.Maps.AppendAt
import Derived.OwnWalk
import Derived.Laws.BytesArg
import Derived.Laws.MakeOwn
import Derived.Laws.OwnMore
import Derived.Deep.OwnRows
import Derived.Tactics
import Derived.Lib.ConvBytes
import Derived.Laws.Slices
import Derived.WalkKit
import Derived.KernelRfl
import Derived.RowKit3
import Derived.Deep.LoopGhost
import Derived.Deep.QuietTactic
import Derived.BigQuiet
import Derived.WideLaws
import Derived.Deep.DeepCutAuto
import Derived.Deep.CutBlock
import Derived.Deep.RegionHeld3
import Derived.Laws.Rows
import Derived.Lib.AppendStr
import Derived.ArgAppend
import Derived.Laws.IdiomCopy
import Derived.OrdersHeld
import Derived.Laws.BitsLemmas
import Derived.RowKit
import Derived.WalkSpells
import Derived.Lib.SliceRun
import Derived.Test.YtciecfaeeogdoaaGreatDoorWHelp
import Derived.Test.YtciecfaeeogdoaaGreatDoorWWalk
import Derived.Test.YtciecfaeeogdoaaGreatDoorWMapW
import Derived.Test.YtciecfaeeogdoaaGreatDoorWClos
import Derived.Test.YtciecfaeeogdoaaGreatDoorShelf
import Derived.Lib.Join
import Derived.Test.YtciecfaeeogdoaaGreatDoorWMet
import Derived.Carry
import Derived.Test.YtciecfaeeogdoaaGreatDoorWWords
import Derived.Test.YtciecfaeeogdoaaGreatDoorWLast
import Derived.Test.YtciecfaeeogdoaaGreatDoorWTab
import Derived.Test.YtciecfaeeogdoaaGreatDoorWFour
import Derived.Test.YtciecfaeeogdoaaGreatDoorWQPut
import Derived.Test.YtciecfaeeogdoaaGreatDoorWApart
import Derived.Test.YtciecfaeeogdoaaGreatDoorWArr
import Derived.Test.YtciecfaeeogdoaaGreatDoorWZeros
import Derived.Test.YtciecfaeeogdoaaGreatDoorWFoot
import Derived.Test.YtciecfaeeogdoaaGreatDoorWKept
import Derived.Test.YtciecfaeeogdoaaGreatDoorWShare
import Derived.Test.YtciecfaeeogdoaaGreatDoorWN
import Derived.Test.YtciecfaeeogdoaaGreatDoorWFootNe
import Derived.Test.YtciecfaeeogdoaaGreatDoorWAt
import Derived.Test.YtciecfaeeogdoaaGreatDoorWEqStruct
import Derived.Test.YtciecfaeeogdoaaGreatDoorWRepsOne
import Derived.Test.YtciecfaeeogdoaaGreatDoorWInv
import Derived.Test.YtciecfaeeogdoaaGreatDoorWInvWords
import Derived.Test.YtciecfaeeogdoaaGreatDoorWGuard
import Derived.Test.YtciecfaeeogdoaaGreatDoorWNEv
import Derived.Test.YtciecfaeeogdoaaGreatDoorWMore
namespace Go.Proofs.YtciecfaeeogdoaaGreatDoor.PFnTariffs
open Go.RowKit Go.Proofs.YtciecfaeeogdoaaGreatDoorW.PrintWords Go.Proofs.YtciecfaeeogdoaaGreatDoorW.PrintLast Go.Proofs.YtciecfaeeogdoaaGreatDoorW.PrintMore
attribute [local go_sem] max2_int min2_int max_two min_two max_three min_three max_four min_four   -- for this text's walks alone
set_option linter.unusedVariables false
set_option linter.unusedSimpArgs false



def errW : Option Int → Value
 | none => .nilIface
 | some c => .iface 0 (.int .i64 c)
theorem errW_none : errW none = .nilIface:=rfl
theorem errW_some (c : Int) : errW (some c) = .iface 0 (.int .i64 c):=rfl

theorem info3 : (Tryz.prog.info? 3).map (fun i => (i.zero,i.size,i.bytes)) = some (some (.int .i64 0),1,8):=by kernel_rfl
theorem info9 : (Tryz.prog.info? 9).map (fun i => (i.zero,i.size,i.bytes)) = some (some (.string ⟨#[]⟩),1,16):=by kernel_rfl
theorem info45 : (Tryz.prog.info? 45).map (fun i => (i.zero,i.size,i.bytes)) = some (some (.agg #[(.int .i64 0),(.int .i64 0)]),2,16):=by kernel_rfl
/-! #### struct type 45 -/
structure S45 where
 f0 : Int
 f1 : Int
def z45 : S45:=⟨(0 : Int),(0 : Int)⟩
def k45 : Kd S45:=Kd.iso (Kd.pair (Kd.int .i64) (Kd.int .i64)) (fun x : S45 => (x.f0,x.f1))
theorem k45_open {w : World} {x : S45} {cs : List Value} (h : k45.K w x cs) : cs = [.int .i64 x.f0, .int .i64 x.f1]:=by
 obtain ⟨_,_,rfl,rfl,rfl⟩ := h
 exact rfl
theorem k45_openM {w : World} {base : Nat} {ok : Nat → Prop} {x : S45} {cs : List Value} (h : k45.M w base ok x cs) : cs = [.int .i64 x.f0, .int .i64 x.f1]:=by
 obtain ⟨_,_,rfl,rfl,rfl⟩ := h
 exact rfl
theorem k45_mk (w : World) (x : S45)  : k45.K w x [.int .i64 x.f0, .int .i64 x.f1]:=⟨[.int .i64 x.f0],[.int .i64 x.f1],rfl,rfl,rfl⟩
theorem k45_mkM (w : World) (base : Nat) (ok : Nat → Prop) (x : S45)  : k45.M w base ok x [.int .i64 x.f0, .int .i64 x.f1]:=⟨[.int .i64 x.f0],[.int .i64 x.f1],rfl,rfl,rfl⟩
def rd_T45 (xs : List S45) (i : Int) : S45:=xs.getD i.toNat z45
theorem at_T45 {w : World} {A : Option Addr} {n : Nat} {xs : List S45} (h : Kd.C k45 w A n xs) (i : Int) (h0 : 0 ≤ i) (h1 : i < n) : ∃ ad ,A = some ad ∧ w.cell? (ad.add (i.toNat * 2)) = some (.int .i64 (rd_T45 xs i).f0) ∧ w.cell? ⟨(ad.add (i.toNat * 2)).block,(ad.add (i.toNat * 2)).off + 1,none⟩ = some (.int .i64 (rd_T45 xs i).f1):=by
 obtain ⟨ad,c,e,_,hK,hc0⟩ := Kd.C_get h z45 i h0 h1;have hc : ∀ j u,c[j]? = some u → w.cell? (ad.add (i.toNat * 2 + j)) = some u:=hc0;obtain rfl:=k45_open hK
 exact ⟨ad,e,hc 0 _ rfl,by rw [← add_field _ _ 1 (by omega)];exact hc 1 _ rfl⟩

theorem sA_ {α : Type} (xs : List α) (i : Nat) (a : α) : xs.toArray.setIfInBounds i a = (xs.set i a).toArray:=List.setIfInBounds_toArray ..
theorem s0_ {α : Type} {x y : α} {xs : List α} : (x :: xs).set 0 y = y :: xs:=List.set_cons_zero ..
theorem s1_ {α : Type} {x y : α} {xs : List α} {n : Nat} : (x :: xs).set (n + 1) y = x :: xs.set n y:=List.set_cons_succ ..
theorem am_ {p : Prop} (h : p) : Aside0 p := ⟨h⟩
theorem ge_ {w0 W : World} {g : Nat} (hg : g = W.heap.size) (h : Below w0.heap.size w0 W) : w0.heap.size ≤ g := by
 rw [hg]
 exact h.size
theorem nl_ {W : World} {a b : Nat} {o : Obj} (hg : b = W.heap.size) (h : W.heap[a]? = some o) : a ≠ b := by
 rw [hg]
 exact Nat.ne_of_lt (blk_lt h)
theorem ng_ {W : World} {a b : Nat} {o : Obj} (hg : b = W.heap.size) (h : W.heap[a]? = some o) : b ≠ a := by
 rw [hg]
 exact Nat.ne_of_gt (blk_lt h)
theorem c1_0 {w : World} {g t : Nat} {v0 : Value} (h : w.heap[g]? = some (.cells #[v0] t (0,0))) : w.cell? ⟨g,0,none⟩ = some v0 := (blk_cell h 0).trans rfl
theorem c2_0 {w : World} {g t : Nat} {v0 v1 : Value} (h : w.heap[g]? = some (.cells #[v0,v1] t (0,0))) : w.cell? ⟨g,0,none⟩ = some v0 := (blk_cell h 0).trans rfl
theorem c2_1 {w : World} {g t : Nat} {v0 v1 : Value} (h : w.heap[g]? = some (.cells #[v0,v1] t (0,0))) : w.cell? ⟨g,1,none⟩ = some v1 := (blk_cell h 1).trans rfl
theorem c3_0 {w : World} {g t : Nat} {v0 v1 v2 : Value} (h : w.heap[g]? = some (.cells #[v0,v1,v2] t (0,0))) : w.cell? ⟨g,0,none⟩ = some v0 := (blk_cell h 0).trans rfl
theorem c3_1 {w : World} {g t : Nat} {v0 v1 v2 : Value} (h : w.heap[g]? = some (.cells #[v0,v1,v2] t (0,0))) : w.cell? ⟨g,1,none⟩ = some v1 := (blk_cell h 1).trans rfl
theorem c3_2 {w : World} {g t : Nat} {v0 v1 v2 : Value} (h : w.heap[g]? = some (.cells #[v0,v1,v2] t (0,0))) : w.cell? ⟨g,2,none⟩ = some v2 := (blk_cell h 2).trans rfl
theorem c4_0 {w : World} {g t : Nat} {v0 v1 v2 v3 : Value} (h : w.heap[g]? = some (.cells #[v0,v1,v2,v3] t (0,0))) : w.cell? ⟨g,0,none⟩ = some v0 := (blk_cell h 0).trans rfl
theorem c4_1 {w : World} {g t : Nat} {v0 v1 v2 v3 : Value} (h : w.heap[g]? = some (.cells #[v0,v1,v2,v3] t (0,0))) : w.cell? ⟨g,1,none⟩ = some v1 := (blk_cell h 1).trans rfl
theorem c4_2 {w : World} {g t : Nat} {v0 v1 v2 v3 : Value} (h : w.heap[g]? = some (.cells #[v0,v1,v2,v3] t (0,0))) : w.cell? ⟨g,2,none⟩ = some v2 := (blk_cell h 2).trans rfl
theorem c4_3 {w : World} {g t : Nat} {v0 v1 v2 v3 : Value} (h : w.heap[g]? = some (.cells #[v0,v1,v2,v3] t (0,0))) : w.cell? ⟨g,3,none⟩ = some v3 := (blk_cell h 3).trans rfl
theorem rf2_ {α : Type} {d : Kd α} {e base g : Nat} {ok : Nat → Prop} {w : World} {v : Value} {xs : List α} (h : d.R e w base (fun k => ok k ∧ k ≠ g) v xs) (a0 a1 : Value) : d.R e ((w.setCell ⟨g,0,none⟩ a0).setCell ⟨g,1,none⟩ a1) base (fun k => ok k ∧ k ≠ g) v xs := (Kd.R_far (p:=⟨g,1,none⟩) (Kd.R_far (p:=⟨g,0,none⟩) h (fun _ hk => hk.2) a0) (fun _ hk => hk.2) a1)
theorem rf3_ {α : Type} {d : Kd α} {e base g : Nat} {ok : Nat → Prop} {w : World} {v : Value} {xs : List α} (h : d.R e w base (fun k => ok k ∧ k ≠ g) v xs) (a0 a1 a2 : Value) : d.R e (((w.setCell ⟨g,0,none⟩ a0).setCell ⟨g,1,none⟩ a1).setCell ⟨g,2,none⟩ a2) base (fun k => ok k ∧ k ≠ g) v xs := (Kd.R_far (p:=⟨g,2,none⟩) (Kd.R_far (p:=⟨g,1,none⟩) (Kd.R_far (p:=⟨g,0,none⟩) h (fun _ hk => hk.2) a0) (fun _ hk => hk.2) a1) (fun _ hk => hk.2) a2)
end Go.Proofs.YtciecfaeeogdoaaGreatDoor.PFnTariffs
