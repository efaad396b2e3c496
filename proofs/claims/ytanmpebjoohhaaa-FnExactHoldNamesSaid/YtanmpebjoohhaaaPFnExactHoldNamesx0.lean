-- Written by a program of this session, over the kit's print (wip/xprint.py)
import Derived.Test.YtanmpebjoohhaaaProg
import Derived.Below
import Derived.Deep.Draws
import Derived.Deep.AppendLies
import Derived.Maps.AppendAt
import Derived.OwnWalk
import Derived.Laws.BytesArg
import Derived.Laws.MakeOwn
import Derived.Laws.OwnMore
import Derived.Deep.OwnRows
import Derived.Tactics
import Derived.Lib.ConvBytes
import Derived.Laws.Slices
import Derived.WalkKit
import Derived.KernelRfl
import Derived.RowKit3
import Derived.Deep.LoopGhost
import Derived.Deep.QuietTactic
import Derived.BigQuiet
import Derived.WideLaws
import Derived.Deep.DeepCutAuto
import Derived.Deep.CutBlock
import Derived.Deep.RegionHeld3
import Derived.Laws.Rows
import Derived.Lib.AppendStr
import Derived.ArgAppend
import Derived.Laws.IdiomCopy
import Derived.OrdersHeld
import Derived.Laws.BitsLemmas
import Derived.RowKit
import Derived.WalkSpells
import Derived.Lib.SliceRun
import Derived.Test.YtanmpebjoohhaaaWWalk
import Derived.Test.YtanmpebjoohhaaaWMapW
import Derived.Test.YtanmpebjoohhaaaShelf
import Derived.Lib.Join
import Derived.Carry
import Derived.Test.YtanmpebjoohhaaaWWords
import Derived.Test.YtanmpebjoohhaaaWLast
import Derived.Test.YtanmpebjoohhaaaWTab
import Derived.Test.YtanmpebjoohhaaaWFour
import Derived.Test.YtanmpebjoohhaaaWQPut
import Derived.Test.YtanmpebjoohhaaaWApart
import Derived.Test.YtanmpebjoohhaaaWArr
import Derived.Test.YtanmpebjoohhaaaWZeros
import Derived.Test.YtanmpebjoohhaaaWFoot
import Derived.Test.YtanmpebjoohhaaaWKept
import Derived.Test.YtanmpebjoohhaaaWShare
import Derived.Test.YtanmpebjoohhaaaWN
import Derived.Test.YtanmpebjoohhaaaWFootNe
import Derived.Test.YtanmpebjoohhaaaWAt
import Derived.Test.YtanmpebjoohhaaaWEqStruct
import Derived.Test.YtanmpebjoohhaaaWRepsOne
import Derived.Test.YtanmpebjoohhaaaWInv
import Derived.Test.YtanmpebjoohhaaaWInvWords
import Derived.Test.YtanmpebjoohhaaaWGuard
import Derived.Test.YtanmpebjoohhaaaWNEv
import Derived.Test.YtanmpebjoohhaaaWMore
namespace Go.Proofs.Ytanmpebjoohhaaa.PFnExactHoldNames
open Go.RowKit Go.Proofs.YtanmpebjoohhaaaW.PrintWords Go.Proofs.YtanmpebjoohhaaaW.PrintLast Go.Proofs.YtanmpebjoohhaaaW.PrintMore
attribute [local go_sem] max2_int min2_int max_two min_two max_three min_three max_four min_four   -- for this text's walks alone
set_option linter.unusedVariables false
set_option linter.unusedSimpArgs false



def errW : Option Int → Value
  | none => .nilIface
  | some c => .iface 0 (.int .i64 c)
theorem errW_none : errW none = .nilIface := rfl
theorem errW_some (c : Int) : errW (some c) = .iface 0 (.int .i64 c) := rfl

theorem info9 : (Try.prog.info? 9).map (fun i => (i.zero, i.size, i.bytes)) = some (some (.string ⟨#[]⟩), 1, 16) := by kernel_rfl
-- the values' own types

end Go.Proofs.Ytanmpebjoohhaaa.PFnExactHoldNames
