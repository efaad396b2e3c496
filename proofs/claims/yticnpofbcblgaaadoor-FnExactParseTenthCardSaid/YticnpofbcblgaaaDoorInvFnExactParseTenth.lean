/- What is known of an input that can be read at the types of 'FnExactParseTenth', and that it can be opened so. -/
import Derived.Test.YticnpofbcblgaaaDoorPFnExactParseTenthx2
import Derived.Test.YticnpofbcblgaaaDoorWOpen
namespace Go.Proofs.YticnpofbcblgaaaDoor.PFnExactParseTenth
open Go.RowKit Go.Proofs.YticnpofbcblgaaaDoorW.PrintWords Go.Proofs.YticnpofbcblgaaaDoorW.PrintLast Go.Proofs.YticnpofbcblgaaaDoorW.PrintMore Go.Proofs.YticnpofbcblgaaaDoorW.Open
end Go.Proofs.YticnpofbcblgaaaDoor.PFnExactParseTenth
