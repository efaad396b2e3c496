-- Written by a program of this session, over the kit's print (wip/xprint.py)
import Derived.Test.YthbibjfnmljpkaaProg
import Derived.Below
import Derived.Deep.Draws
import Derived.Deep.AppendLies
import Derived.Maps.AppendAt
import Derived.OwnWalk
import Derived.Laws.BytesArg
import Derived.Laws.MakeOwn
import Derived.Laws.OwnMore
import Derived.Deep.OwnRows
import Derived.Tactics
import Derived.Lib.ConvBytes
import Derived.Laws.Slices
import Derived.WalkKit
import Derived.KernelRfl
import Derived.RowKit3
import Derived.Deep.LoopGhost
import Derived.Deep.QuietTactic
import Derived.BigQuiet
import Derived.WideLaws
import Derived.Deep.DeepCutAuto
import Derived.Deep.CutBlock
import Derived.Deep.RegionHeld3
import Derived.Laws.Rows
import Derived.Lib.AppendStr
import Derived.ArgAppend
import Derived.Laws.IdiomCopy
import Derived.OrdersHeld
import Derived.Laws.BitsLemmas
import Derived.RowKit
import Derived.WalkSpells
import Derived.Lib.SliceRun
import Derived.Test.YthbibjfnmljpkaaWHelp
import Derived.Test.YthbibjfnmljpkaaWWalk
import Derived.Test.YthbibjfnmljpkaaWMapW
import Derived.Test.YthbibjfnmljpkaaWClos
import Derived.Test.YthbibjfnmljpkaaShelf
import Derived.Lib.Join
import Derived.Carry
import Derived.Test.YthbibjfnmljpkaaWWords
import Derived.Test.YthbibjfnmljpkaaWLast
import Derived.Test.YthbibjfnmljpkaaWTab
import Derived.Test.YthbibjfnmljpkaaWFour
import Derived.Test.YthbibjfnmljpkaaWQPut
import Derived.Test.YthbibjfnmljpkaaWApart
import Derived.Test.YthbibjfnmljpkaaWArr
import Derived.Test.YthbibjfnmljpkaaWZeros
import Derived.Test.YthbibjfnmljpkaaWFoot
import Derived.Test.YthbibjfnmljpkaaWKept
import Derived.Test.YthbibjfnmljpkaaWShare
import Derived.Test.YthbibjfnmljpkaaWN
import Derived.Test.YthbibjfnmljpkaaWFootNe
import Derived.Test.YthbibjfnmljpkaaWAt
import Derived.Test.YthbibjfnmljpkaaWEqStruct
import Derived.Test.YthbibjfnmljpkaaWRepsOne
import Derived.Test.YthbibjfnmljpkaaWInv
import Derived.Test.YthbibjfnmljpkaaWInvWords
import Derived.Test.YthbibjfnmljpkaaWGuard
import Derived.Test.YthbibjfnmljpkaaWNEv
import Derived.Test.YthbibjfnmljpkaaWMore
namespace Go.Proofs.Ythbibjfnmljpkaa.PFnTrainLoading
open Go.RowKit Go.Proofs.YthbibjfnmljpkaaW.PrintWords Go.Proofs.YthbibjfnmljpkaaW.PrintLast Go.Proofs.YthbibjfnmljpkaaW.PrintMore
attribute [local go_sem] max2_int min2_int max_two min_two max_three min_three max_four min_four   -- for this text's walks alone
set_option linter.unusedVariables false
set_option linter.unusedSimpArgs false



def errW : Option Int → Value
 | none => .nilIface
 | some c => .iface 0 (.int .i64 c)
theorem errW_none : errW none = .nilIface:=rfl
theorem errW_some (c : Int) : errW (some c) = .iface 0 (.int .i64 c):=rfl

theorem info3 : (Try.prog.info? 3).map (fun i => (i.zero,i.size,i.bytes)) = some (some (.int .i64 0),1,8):=by kernel_rfl
theorem info5 : (Try.prog.info? 5).map (fun i => (i.zero,i.size,i.bytes)) = some (some (.int .u8 0),1,1):=by kernel_rfl
theorem info9 : (Try.prog.info? 9).map (fun i => (i.zero,i.size,i.bytes)) = some (some (.string ⟨#[]⟩),1,16):=by kernel_rfl
theorem info54 : (Try.prog.info? 54).map (fun i => (i.zero,i.size,i.bytes)) = some (some (.agg #[(.int .i64 0),(.int .i64 0)]),2,16):=by kernel_rfl
theorem info64 : (Try.prog.info? 64).map (fun i => (i.zero,i.size,i.bytes)) = some (some (.agg #[(.string ⟨#[]⟩),(.int .i64 0),(.int .i64 0),(.int .i64 0),(.int .i64 0)]),5,48):=by kernel_rfl
/-! #### struct type 54 -/
structure S54 where
 f0 : Int
 f1 : Int
def z54 : S54:=⟨(0 : Int),(0 : Int)⟩
def k54 : Kd S54:=Kd.iso (Kd.pair (Kd.int .i64) (Kd.int .i64)) (fun x : S54 => (x.f0,x.f1))
theorem k54_open {w : World} {x : S54} {cs : List Value} (h : k54.K w x cs) : cs = [.int .i64 x.f0, .int .i64 x.f1]:=by
 obtain ⟨_,_,rfl,rfl,rfl⟩ := h
 exact rfl
theorem k54_openM {w : World} {base : Nat} {ok : Nat → Prop} {x : S54} {cs : List Value} (h : k54.M w base ok x cs) : cs = [.int .i64 x.f0, .int .i64 x.f1]:=by
 obtain ⟨_,_,rfl,rfl,rfl⟩ := h
 exact rfl
theorem k54_mk (w : World) (x : S54)  : k54.K w x [.int .i64 x.f0, .int .i64 x.f1]:=⟨[.int .i64 x.f0],[.int .i64 x.f1],rfl,rfl,rfl⟩
theorem k54_mkM (w : World) (base : Nat) (ok : Nat → Prop) (x : S54)  : k54.M w base ok x [.int .i64 x.f0, .int .i64 x.f1]:=⟨[.int .i64 x.f0],[.int .i64 x.f1],rfl,rfl,rfl⟩
def rd_T54 (xs : List S54) (i : Int) : S54:=xs.getD i.toNat z54
theorem at_T54 {w : World} {A : Option Addr} {n : Nat} {xs : List S54} (h : Kd.C k54 w A n xs) (i : Int) (h0 : 0 ≤ i) (h1 : i < n) : ∃ ad ,A = some ad ∧ w.cell? (ad.add (i.toNat * 2)) = some (.int .i64 (rd_T54 xs i).f0) ∧ w.cell? ⟨(ad.add (i.toNat * 2)).block,(ad.add (i.toNat * 2)).off + 1,none⟩ = some (.int .i64 (rd_T54 xs i).f1):=by
 obtain ⟨ad,c,e,_,hK,hc0⟩ := Kd.C_get h z54 i h0 h1;have hc : ∀ j u,c[j]? = some u → w.cell? (ad.add (i.toNat * 2 + j)) = some u:=hc0;obtain rfl:=k54_open hK
 exact ⟨ad,e,hc 0 _ rfl,by rw [← add_field _ _ 1 (by omega)];exact hc 1 _ rfl⟩

/-! #### struct type 64 -/
structure S64 where
 f0 : ByteArray
 f1 : Int
 f2 : Int
 f3 : Int
 f4 : Int
def z64 : S64:=⟨(⟨#[]⟩ : ByteArray),(0 : Int),(0 : Int),(0 : Int),(0 : Int)⟩
def k64 : Kd S64:=Kd.iso (Kd.pair Kd.string (Kd.pair (Kd.int .i64) (Kd.pair (Kd.int .i64) (Kd.pair (Kd.int .i64) (Kd.int .i64))))) (fun x : S64 => (x.f0,x.f1,x.f2,x.f3,x.f4))
theorem k64_open {w : World} {x : S64} {cs : List Value} (h : k64.K w x cs) : cs = [.string x.f0, .int .i64 x.f1, .int .i64 x.f2, .int .i64 x.f3, .int .i64 x.f4]:=by
 obtain ⟨_,_,rfl,rfl,⟨_,_,rfl,rfl,⟨_,_,rfl,rfl,⟨_,_,rfl,rfl,rfl⟩⟩⟩⟩ := h
 exact rfl
theorem k64_openM {w : World} {base : Nat} {ok : Nat → Prop} {x : S64} {cs : List Value} (h : k64.M w base ok x cs) : cs = [.string x.f0, .int .i64 x.f1, .int .i64 x.f2, .int .i64 x.f3, .int .i64 x.f4]:=by
 obtain ⟨_,_,rfl,rfl,⟨_,_,rfl,rfl,⟨_,_,rfl,rfl,⟨_,_,rfl,rfl,rfl⟩⟩⟩⟩ := h
 exact rfl
theorem k64_mk (w : World) (x : S64)  : k64.K w x [.string x.f0, .int .i64 x.f1, .int .i64 x.f2, .int .i64 x.f3, .int .i64 x.f4]:=⟨[.string x.f0],[.int .i64 x.f1, .int .i64 x.f2, .int .i64 x.f3, .int .i64 x.f4],rfl,rfl,⟨[.int .i64 x.f1],[.int .i64 x.f2, .int .i64 x.f3, .int .i64 x.f4],rfl,rfl,⟨[.int .i64 x.f2],[.int .i64 x.f3, .int .i64 x.f4],rfl,rfl,⟨[.int .i64 x.f3],[.int .i64 x.f4],rfl,rfl,rfl⟩⟩⟩⟩
theorem k64_mkM (w : World) (base : Nat) (ok : Nat → Prop) (x : S64)  : k64.M w base ok x [.string x.f0, .int .i64 x.f1, .int .i64 x.f2, .int .i64 x.f3, .int .i64 x.f4]:=⟨[.string x.f0],[.int .i64 x.f1, .int .i64 x.f2, .int .i64 x.f3, .int .i64 x.f4],rfl,rfl,⟨[.int .i64 x.f1],[.int .i64 x.f2, .int .i64 x.f3, .int .i64 x.f4],rfl,rfl,⟨[.int .i64 x.f2],[.int .i64 x.f3, .int .i64 x.f4],rfl,rfl,⟨[.int .i64 x.f3],[.int .i64 x.f4],rfl,rfl,rfl⟩⟩⟩⟩
def rd_T64 (xs : List S64) (i : Int) : S64:=xs.getD i.toNat z64
theorem at_T64 {w : World} {A : Option Addr} {n : Nat} {xs : List S64} (h : Kd.C k64 w A n xs) (i : Int) (h0 : 0 ≤ i) (h1 : i < n) : ∃ ad ,A = some ad ∧ w.cell? (ad.add (i.toNat * 5)) = some (.string (rd_T64 xs i).f0) ∧ w.cell? ⟨(ad.add (i.toNat * 5)).block,(ad.add (i.toNat * 5)).off + 1,none⟩ = some (.int .i64 (rd_T64 xs i).f1) ∧ w.cell? ⟨(ad.add (i.toNat * 5)).block,(ad.add (i.toNat * 5)).off + 2,none⟩ = some (.int .i64 (rd_T64 xs i).f2) ∧ w.cell? ⟨(ad.add (i.toNat * 5)).block,(ad.add (i.toNat * 5)).off + 3,none⟩ = some (.int .i64 (rd_T64 xs i).f3) ∧ w.cell? ⟨(ad.add (i.toNat * 5)).block,(ad.add (i.toNat * 5)).off + 4,none⟩ = some (.int .i64 (rd_T64 xs i).f4):=by
 obtain ⟨ad,c,e,_,hK,hc0⟩ := Kd.C_get h z64 i h0 h1;have hc : ∀ j u,c[j]? = some u → w.cell? (ad.add (i.toNat * 5 + j)) = some u:=hc0;obtain rfl:=k64_open hK
 exact ⟨ad,e,hc 0 _ rfl,by rw [← add_field _ _ 1 (by omega)];exact hc 1 _ rfl,by rw [← add_field _ _ 2 (by omega)];exact hc 2 _ rfl,by rw [← add_field _ _ 3 (by omega)];exact hc 3 _ rfl,by rw [← add_field _ _ 4 (by omega)];exact hc 4 _ rfl⟩

theorem sA_ {α : Type} (xs : List α) (i : Nat) (a : α) : xs.toArray.setIfInBounds i a = (xs.set i a).toArray:=List.setIfInBounds_toArray ..
theorem s0_ {α : Type} {x y : α} {xs : List α} : (x :: xs).set 0 y = y :: xs:=List.set_cons_zero ..
theorem s1_ {α : Type} {x y : α} {xs : List α} {n : Nat} : (x :: xs).set (n + 1) y = x :: xs.set n y:=List.set_cons_succ ..
theorem am_ {p : Prop} (h : p) : Aside0 p := ⟨h⟩
theorem ge_ {w0 W : World} {g : Nat} (hg : g = W.heap.size) (h : Below w0.heap.size w0 W) : w0.heap.size ≤ g := by
 rw [hg]
 exact h.size
theorem nl_ {W : World} {a b : Nat} {o : Obj} (hg : b = W.heap.size) (h : W.heap[a]? = some o) : a ≠ b := by
 rw [hg]
 exact Nat.ne_of_lt (blk_lt h)
theorem ng_ {W : World} {a b : Nat} {o : Obj} (hg : b = W.heap.size) (h : W.heap[a]? = some o) : b ≠ a := by
 rw [hg]
 exact Nat.ne_of_gt (blk_lt h)
theorem c1_0 {w : World} {g t : Nat} {v0 : Value} (h : w.heap[g]? = some (.cells #[v0] t (0,0))) : w.cell? ⟨g,0,none⟩ = some v0 := (blk_cell h 0).trans rfl
theorem c2_0 {w : World} {g t : Nat} {v0 v1 : Value} (h : w.heap[g]? = some (.cells #[v0,v1] t (0,0))) : w.cell? ⟨g,0,none⟩ = some v0 := (blk_cell h 0).trans rfl
theorem c2_1 {w : World} {g t : Nat} {v0 v1 : Value} (h : w.heap[g]? = some (.cells #[v0,v1] t (0,0))) : w.cell? ⟨g,1,none⟩ = some v1 := (blk_cell h 1).trans rfl
theorem c3_0 {w : World} {g t : Nat} {v0 v1 v2 : Value} (h : w.heap[g]? = some (.cells #[v0,v1,v2] t (0,0))) : w.cell? ⟨g,0,none⟩ = some v0 := (blk_cell h 0).trans rfl
theorem c3_1 {w : World} {g t : Nat} {v0 v1 v2 : Value} (h : w.heap[g]? = some (.cells #[v0,v1,v2] t (0,0))) : w.cell? ⟨g,1,none⟩ = some v1 := (blk_cell h 1).trans rfl
theorem c3_2 {w : World} {g t : Nat} {v0 v1 v2 : Value} (h : w.heap[g]? = some (.cells #[v0,v1,v2] t (0,0))) : w.cell? ⟨g,2,none⟩ = some v2 := (blk_cell h 2).trans rfl
theorem c4_0 {w : World} {g t : Nat} {v0 v1 v2 v3 : Value} (h : w.heap[g]? = some (.cells #[v0,v1,v2,v3] t (0,0))) : w.cell? ⟨g,0,none⟩ = some v0 := (blk_cell h 0).trans rfl
theorem c4_1 {w : World} {g t : Nat} {v0 v1 v2 v3 : Value} (h : w.heap[g]? = some (.cells #[v0,v1,v2,v3] t (0,0))) : w.cell? ⟨g,1,none⟩ = some v1 := (blk_cell h 1).trans rfl
theorem c4_2 {w : World} {g t : Nat} {v0 v1 v2 v3 : Value} (h : w.heap[g]? = some (.cells #[v0,v1,v2,v3] t (0,0))) : w.cell? ⟨g,2,none⟩ = some v2 := (blk_cell h 2).trans rfl
theorem c4_3 {w : World} {g t : Nat} {v0 v1 v2 v3 : Value} (h : w.heap[g]? = some (.cells #[v0,v1,v2,v3] t (0,0))) : w.cell? ⟨g,3,none⟩ = some v3 := (blk_cell h 3).trans rfl
theorem rf2_ {α : Type} {d : Kd α} {e base g : Nat} {ok : Nat → Prop} {w : World} {v : Value} {xs : List α} (h : d.R e w base (fun k => ok k ∧ k ≠ g) v xs) (a0 a1 : Value) : d.R e ((w.setCell ⟨g,0,none⟩ a0).setCell ⟨g,1,none⟩ a1) base (fun k => ok k ∧ k ≠ g) v xs := (Kd.R_far (p:=⟨g,1,none⟩) (Kd.R_far (p:=⟨g,0,none⟩) h (fun _ hk => hk.2) a0) (fun _ hk => hk.2) a1)
theorem rf3_ {α : Type} {d : Kd α} {e base g : Nat} {ok : Nat → Prop} {w : World} {v : Value} {xs : List α} (h : d.R e w base (fun k => ok k ∧ k ≠ g) v xs) (a0 a1 a2 : Value) : d.R e (((w.setCell ⟨g,0,none⟩ a0).setCell ⟨g,1,none⟩ a1).setCell ⟨g,2,none⟩ a2) base (fun k => ok k ∧ k ≠ g) v xs := (Kd.R_far (p:=⟨g,2,none⟩) (Kd.R_far (p:=⟨g,1,none⟩) (Kd.R_far (p:=⟨g,0,none⟩) h (fun _ hk => hk.2) a0) (fun _ hk => hk.2) a1) (fun _ hk => hk.2) a2)
end Go.Proofs.Ythbibjfnmljpkaa.PFnTrainLoading
