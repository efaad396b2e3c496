/- What is known of an input that can be read at the types of 'FnTrainLoading', and that it can be opened so. -/
import Derived.Test.YthbibjfnmljpkaaPFnTrainLoadingx15
import Derived.Test.YthbibjfnmljpkaaWOpen
namespace Go.Proofs.Ythbibjfnmljpkaa.PFnTrainLoading
open Go.RowKit Go.Proofs.YthbibjfnmljpkaaW.PrintWords Go.Proofs.YthbibjfnmljpkaaW.PrintLast Go.Proofs.YthbibjfnmljpkaaW.PrintMore Go.Proofs.YthbibjfnmljpkaaW.Open
end Go.Proofs.Ythbibjfnmljpkaa.PFnTrainLoading
