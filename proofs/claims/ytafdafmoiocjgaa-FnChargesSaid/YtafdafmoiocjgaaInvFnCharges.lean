/- What is known of an input that can be read at the types of 'FnCharges', and that it can be opened so. -/
import Derived.Test.YtafdafmoiocjgaaPFnChargesx10
import Derived.Test.YtafdafmoiocjgaaWOpen
namespace Go.Proofs.Ytafdafmoiocjgaa.PFnCharges
open Go.RowKit Go.Proofs.YtafdafmoiocjgaaW.PrintWords Go.Proofs.YtafdafmoiocjgaaW.PrintLast Go.Proofs.YtafdafmoiocjgaaW.PrintMore Go.Proofs.YtafdafmoiocjgaaW.Open
end Go.Proofs.Ytafdafmoiocjgaa.PFnCharges
