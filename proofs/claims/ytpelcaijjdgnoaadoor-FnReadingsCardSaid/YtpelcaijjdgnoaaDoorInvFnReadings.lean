/- What is known of an input that can be read at the types of 'FnReadings', and that it can be opened so. -/
import Derived.Test.YtpelcaijjdgnoaaDoorPFnReadingsx12
import Derived.Test.YtpelcaijjdgnoaaDoorWOpen
namespace Go.Proofs.YtpelcaijjdgnoaaDoor.PFnReadings
open Go.RowKit Go.Proofs.YtpelcaijjdgnoaaDoorW.PrintWords Go.Proofs.YtpelcaijjdgnoaaDoorW.PrintLast Go.Proofs.YtpelcaijjdgnoaaDoorW.PrintMore Go.Proofs.YtpelcaijjdgnoaaDoorW.Open
end Go.Proofs.YtpelcaijjdgnoaaDoor.PFnReadings
