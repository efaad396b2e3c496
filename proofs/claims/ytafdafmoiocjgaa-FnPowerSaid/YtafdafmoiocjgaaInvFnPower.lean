/- What is known of an input that can be read at the types of 'FnPower', and that it can be opened so. -/
import Derived.Test.YtafdafmoiocjgaaPFnPowerx8
import Derived.Test.YtafdafmoiocjgaaWOpen
namespace Go.Proofs.Ytafdafmoiocjgaa.PFnPower
open Go.RowKit Go.Proofs.YtafdafmoiocjgaaW.PrintWords Go.Proofs.YtafdafmoiocjgaaW.PrintLast Go.Proofs.YtafdafmoiocjgaaW.PrintMore Go.Proofs.YtafdafmoiocjgaaW.Open
end Go.Proofs.Ytafdafmoiocjgaa.PFnPower
