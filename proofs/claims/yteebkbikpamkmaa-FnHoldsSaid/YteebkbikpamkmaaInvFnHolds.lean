/- What is known of an input that can be read at the types of 'FnHolds', and that it can be opened so. -/
import Derived.Test.YteebkbikpamkmaaPFnHoldsx14
import Derived.Test.YteebkbikpamkmaaWOpen
namespace Go.Proofs.Yteebkbikpamkmaa.PFnHolds
open Go.RowKit Go.Proofs.YteebkbikpamkmaaW.PrintWords Go.Proofs.YteebkbikpamkmaaW.PrintLast Go.Proofs.YteebkbikpamkmaaW.PrintMore Go.Proofs.YteebkbikpamkmaaW.Open
end Go.Proofs.Yteebkbikpamkmaa.PFnHolds
