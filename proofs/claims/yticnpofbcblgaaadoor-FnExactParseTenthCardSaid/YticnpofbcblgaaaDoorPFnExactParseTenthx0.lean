-- Written by a program of this session, over the kit's print (wip/xprint.py)
import Derived.Test.YticnpofbcblgaaaDoorProg
import Derived.Below
import Derived.Deep.Draws
import Derived.Deep.AppendLies
import Derived.Maps.AppendAt
import Derived.OwnWalk
import Derived.Laws.BytesArg
import Derived.Laws.MakeOwn
import Derived.Laws.OwnMore
import Derived.Deep.OwnRows
import Derived.Tactics
import Derived.Lib.ConvBytes
import Derived.Laws.Slices
import Derived.WalkKit
import Derived.KernelRfl
import Derived.RowKit3
import Derived.Deep.LoopGhost
import Derived.Deep.QuietTactic
import Derived.BigQuiet
import Derived.WideLaws
import Derived.Deep.DeepCutAuto
import Derived.Deep.CutBlock
import Derived.Deep.RegionHeld3
import Derived.Laws.Rows
import Derived.Lib.AppendStr
import Derived.ArgAppend
import Derived.Laws.IdiomCopy
import Derived.OrdersHeld
import Derived.Laws.BitsLemmas
import Derived.RowKit
import Derived.WalkSpells
import Derived.Lib.SliceRun
import Derived.Test.YticnpofbcblgaaaDoorWWalk
import Derived.Test.YticnpofbcblgaaaDoorWMapW
import Derived.Carry
import Derived.Test.YticnpofbcblgaaaDoorWWords
import Derived.Test.YticnpofbcblgaaaDoorWLast
import Derived.Test.YticnpofbcblgaaaDoorWTab
import Derived.Test.YticnpofbcblgaaaDoorWFour
import Derived.Test.YticnpofbcblgaaaDoorWQPut
import Derived.Test.YticnpofbcblgaaaDoorWApart
import Derived.Test.YticnpofbcblgaaaDoorWArr
import Derived.Test.YticnpofbcblgaaaDoorWZeros
import Derived.Test.YticnpofbcblgaaaDoorWFoot
import Derived.Test.YticnpofbcblgaaaDoorWKept
import Derived.Test.YticnpofbcblgaaaDoorWShare
import Derived.Test.YticnpofbcblgaaaDoorWN
import Derived.Test.YticnpofbcblgaaaDoorWFootNe
import Derived.Test.YticnpofbcblgaaaDoorWAt
import Derived.Test.YticnpofbcblgaaaDoorWEqStruct
import Derived.Test.YticnpofbcblgaaaDoorWRepsOne
import Derived.Test.YticnpofbcblgaaaDoorWInv
import Derived.Test.YticnpofbcblgaaaDoorWInvWords
import Derived.Test.YticnpofbcblgaaaDoorWGuard
import Derived.Test.YticnpofbcblgaaaDoorWNEv
import Derived.Test.YticnpofbcblgaaaDoorWMore
namespace Go.Proofs.YticnpofbcblgaaaDoor.PFnExactParseTenth
open Go.RowKit Go.Proofs.YticnpofbcblgaaaDoorW.PrintWords Go.Proofs.YticnpofbcblgaaaDoorW.PrintLast Go.Proofs.YticnpofbcblgaaaDoorW.PrintMore
attribute [local go_sem] max2_int min2_int max_two min_two max_three min_three max_four min_four   -- for this text's walks alone
set_option linter.unusedVariables false
set_option linter.unusedSimpArgs false



def errW : Option Int → Value
  | none => .nilIface
  | some c => .iface 0 (.int .i64 c)
theorem errW_none : errW none = .nilIface := rfl
theorem errW_some (c : Int) : errW (some c) = .iface 0 (.int .i64 c) := rfl

-- the values' own types

end Go.Proofs.YticnpofbcblgaaaDoor.PFnExactParseTenth
