/- What is known of an input that can be read at the types of 'FnExactHoldNames', and that it can be opened so. -/
import Derived.Test.YtanmpebjoohhaaaPFnExactHoldNamesx1
import Derived.Test.YtanmpebjoohhaaaWOpen
namespace Go.Proofs.Ytanmpebjoohhaaa.PFnExactHoldNames
open Go.RowKit Go.Proofs.YtanmpebjoohhaaaW.PrintWords Go.Proofs.YtanmpebjoohhaaaW.PrintLast Go.Proofs.YtanmpebjoohhaaaW.PrintMore Go.Proofs.YtanmpebjoohhaaaW.Open
end Go.Proofs.Ytanmpebjoohhaaa.PFnExactHoldNames
