/- What is known of an input that can be read at the types of 'FnExactParseCharge', and that it can be opened so. -/
import Derived.Test.YthogpinmmddicaaDoorPFnExactParseChargex7
import Derived.Test.YthogpinmmddicaaDoorWOpen
namespace Go.Proofs.YthogpinmmddicaaDoor.PFnExactParseCharge
open Go.RowKit Go.Proofs.YthogpinmmddicaaDoorW.PrintWords Go.Proofs.YthogpinmmddicaaDoorW.PrintLast Go.Proofs.YthogpinmmddicaaDoorW.PrintMore Go.Proofs.YthogpinmmddicaaDoorW.Open
end Go.Proofs.YthogpinmmddicaaDoor.PFnExactParseCharge
