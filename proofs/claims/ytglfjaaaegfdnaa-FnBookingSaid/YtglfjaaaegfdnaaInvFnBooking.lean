/- What is known of an input that can be read at the types of 'FnBooking', and that it can be opened so. -/
import Derived.Test.YtglfjaaaegfdnaaPFnBookingx17
import Derived.Test.YtglfjaaaegfdnaaWOpen
namespace Go.Proofs.Ytglfjaaaegfdnaa.PFnBooking
open Go.RowKit Go.Proofs.YtglfjaaaegfdnaaW.PrintWords Go.Proofs.YtglfjaaaegfdnaaW.PrintLast Go.Proofs.YtglfjaaaegfdnaaW.PrintMore Go.Proofs.YtglfjaaaegfdnaaW.Open
end Go.Proofs.Ytglfjaaaegfdnaa.PFnBooking
