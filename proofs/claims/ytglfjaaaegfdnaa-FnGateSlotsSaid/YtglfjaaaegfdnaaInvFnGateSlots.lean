/- What is known of an input that can be read at the types of 'FnGateSlots', and that it can be opened so. -/
import Derived.Test.YtglfjaaaegfdnaaPFnGateSlotsx19
import Derived.Test.YtglfjaaaegfdnaaWOpen
namespace Go.Proofs.Ytglfjaaaegfdnaa.PFnGateSlots
open Go.RowKit Go.Proofs.YtglfjaaaegfdnaaW.PrintWords Go.Proofs.YtglfjaaaegfdnaaW.PrintLast Go.Proofs.YtglfjaaaegfdnaaW.PrintMore Go.Proofs.YtglfjaaaegfdnaaW.Open
end Go.Proofs.Ytglfjaaaegfdnaa.PFnGateSlots
