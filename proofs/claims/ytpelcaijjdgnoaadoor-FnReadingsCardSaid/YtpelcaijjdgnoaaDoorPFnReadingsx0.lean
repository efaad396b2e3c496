-- Written by a program of this session, over the kit's print (wip/xprint.py)
import Derived.Test.YtpelcaijjdgnoaaDoorProg
import Derived.Below
import Derived.Deep.Draws
import Derived.Deep.AppendLies
import Derived.Maps.AppendAt
import Derived.OwnWalk
import Derived.Laws.BytesArg
import Derived.Laws.MakeOwn
import Derived.Laws.OwnMore
import Derived.Deep.OwnRows
import Derived.Tactics
import Derived.Lib.ConvBytes
import Derived.Laws.Slices
import Derived.WalkKit
import Derived.KernelRfl
import Derived.RowKit3
import Derived.Deep.LoopGhost
import Derived.Deep.QuietTactic
import Derived.BigQuiet
import Derived.WideLaws
import Derived.Deep.DeepCutAuto
import Derived.Deep.CutBlock
import Derived.Deep.RegionHeld3
import Derived.Laws.Rows
import Derived.Lib.AppendStr
import Derived.ArgAppend
import Derived.Laws.IdiomCopy
import Derived.OrdersHeld
import Derived.Laws.BitsLemmas
import Derived.RowKit
import Derived.WalkSpells
import Derived.Lib.SliceRun
import Derived.Test.YtpelcaijjdgnoaaDoorWHelp
import Derived.Test.YtpelcaijjdgnoaaDoorWWalk
import Derived.Test.YtpelcaijjdgnoaaDoorWMapW
import Derived.Test.YtpelcaijjdgnoaaDoorWClos
import Derived.Test.YtpelcaijjdgnoaaDoorShelf
import Derived.Lib.Join
import Derived.Carry
import Derived.Shelf.Spec.SlicesInsertGrow
import Derived.Test.YtpelcaijjdgnoaaDoorWWords
import Derived.Test.YtpelcaijjdgnoaaDoorWLast
import Derived.Test.YtpelcaijjdgnoaaDoorWTab
import Derived.Test.YtpelcaijjdgnoaaDoorWFour
import Derived.Test.YtpelcaijjdgnoaaDoorWQPut
import Derived.Test.YtpelcaijjdgnoaaDoorWApart
import Derived.Test.YtpelcaijjdgnoaaDoorWArr
import Derived.Test.YtpelcaijjdgnoaaDoorWZeros
import Derived.Test.YtpelcaijjdgnoaaDoorWFoot
import Derived.Test.YtpelcaijjdgnoaaDoorWKept
import Derived.Test.YtpelcaijjdgnoaaDoorWShare
import Derived.Test.YtpelcaijjdgnoaaDoorWN
import Derived.Test.YtpelcaijjdgnoaaDoorWFootNe
import Derived.Test.YtpelcaijjdgnoaaDoorWAt
import Derived.Test.YtpelcaijjdgnoaaDoorWEqStruct
import Derived.Test.YtpelcaijjdgnoaaDoorWRepsOne
import Derived.Test.YtpelcaijjdgnoaaDoorWInv
import Derived.Test.YtpelcaijjdgnoaaDoorWInvWords
import Derived.Test.YtpelcaijjdgnoaaDoorWGuard
import Derived.Test.YtpelcaijjdgnoaaDoorWNEv
import Derived.Test.YtpelcaijjdgnoaaDoorWMore
namespace Go.Proofs.YtpelcaijjdgnoaaDoor.PFnReadings
open Go.RowKit Go.Proofs.YtpelcaijjdgnoaaDoorW.PrintWords Go.Proofs.YtpelcaijjdgnoaaDoorW.PrintLast Go.Proofs.YtpelcaijjdgnoaaDoorW.PrintMore
attribute [local go_sem] max2_int min2_int max_two min_two max_three min_three max_four min_four   -- for this text's walks alone
set_option linter.unusedVariables false
set_option linter.unusedSimpArgs false



def errW : Option Int → Value
 | none => .nilIface
 | some c => .iface 0 (.int .i64 c)
theorem errW_none : errW none = .nilIface:=rfl
theorem errW_some (c : Int) : errW (some c) = .iface 0 (.int .i64 c):=rfl

theorem info3 : (Tryd.prog.info? 3).map (fun i => (i.zero,i.size,i.bytes)) = some (some (.int .i64 0),1,8):=by kernel_rfl
theorem info41 : (Tryd.prog.info? 41).map (fun i => (i.zero,i.size,i.bytes)) = some (some (.agg #[(.int .i64 0),(.int .i64 0),(.bool false)]),3,24):=by kernel_rfl
/-! #### struct type 41 -/
structure S41 where
 f0 : Int
 f1 : Int
 f2 : Bool
def z41 : S41:=⟨(0 : Int),(0 : Int),false⟩
def k41 : Kd S41:=Kd.iso (Kd.pair (Kd.int .i64) (Kd.pair (Kd.int .i64) Kd.bool)) (fun x : S41 => (x.f0,x.f1,x.f2))
theorem k41_open {w : World} {x : S41} {cs : List Value} (h : k41.K w x cs) : cs = [.int .i64 x.f0, .int .i64 x.f1, .bool x.f2]:=by
 obtain ⟨_,_,rfl,rfl,⟨_,_,rfl,rfl,rfl⟩⟩ := h
 exact rfl
theorem k41_openM {w : World} {base : Nat} {ok : Nat → Prop} {x : S41} {cs : List Value} (h : k41.M w base ok x cs) : cs = [.int .i64 x.f0, .int .i64 x.f1, .bool x.f2]:=by
 obtain ⟨_,_,rfl,rfl,⟨_,_,rfl,rfl,rfl⟩⟩ := h
 exact rfl
theorem k41_mk (w : World) (x : S41)  : k41.K w x [.int .i64 x.f0, .int .i64 x.f1, .bool x.f2]:=⟨[.int .i64 x.f0],[.int .i64 x.f1, .bool x.f2],rfl,rfl,⟨[.int .i64 x.f1],[.bool x.f2],rfl,rfl,rfl⟩⟩
theorem k41_mkM (w : World) (base : Nat) (ok : Nat → Prop) (x : S41)  : k41.M w base ok x [.int .i64 x.f0, .int .i64 x.f1, .bool x.f2]:=⟨[.int .i64 x.f0],[.int .i64 x.f1, .bool x.f2],rfl,rfl,⟨[.int .i64 x.f1],[.bool x.f2],rfl,rfl,rfl⟩⟩
def rd_T41 (xs : List S41) (i : Int) : S41:=xs.getD i.toNat z41
theorem at_T41 {w : World} {A : Option Addr} {n : Nat} {xs : List S41} (h : Kd.C k41 w A n xs) (i : Int) (h0 : 0 ≤ i) (h1 : i < n) : ∃ ad ,A = some ad ∧ w.cell? (ad.add (i.toNat * 3)) = some (.int .i64 (rd_T41 xs i).f0) ∧ w.cell? ⟨(ad.add (i.toNat * 3)).block,(ad.add (i.toNat * 3)).off + 1,none⟩ = some (.int .i64 (rd_T41 xs i).f1) ∧ w.cell? ⟨(ad.add (i.toNat * 3)).block,(ad.add (i.toNat * 3)).off + 2,none⟩ = some (.bool (rd_T41 xs i).f2):=by
 obtain ⟨ad,c,e,_,hK,hc0⟩ := Kd.C_get h z41 i h0 h1
 have hc : ∀ j u,c[j]? = some u → w.cell? (ad.add (i.toNat * 3 + j)) = some u:=hc0
 obtain rfl:=k41_open hK
 exact ⟨ad,e,hc 0 _ rfl,by rw [← add_field _ _ 1 (by omega)];exact hc 1 _ rfl,by rw [← add_field _ _ 2 (by omega)];exact hc 2 _ rfl⟩

theorem sA_ {α : Type} (xs : List α) (i : Nat) (a : α) : xs.toArray.setIfInBounds i a = (xs.set i a).toArray:=List.setIfInBounds_toArray ..
theorem s0_ {α : Type} {x y : α} {xs : List α} : (x :: xs).set 0 y = y :: xs:=List.set_cons_zero ..
theorem s1_ {α : Type} {x y : α} {xs : List α} {n : Nat} : (x :: xs).set (n + 1) y = x :: xs.set n y:=List.set_cons_succ ..
end Go.Proofs.YtpelcaijjdgnoaaDoor.PFnReadings
