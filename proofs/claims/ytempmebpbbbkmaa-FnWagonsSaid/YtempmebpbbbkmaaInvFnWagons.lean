/- What is known of an input that can be read at the types of 'FnWagons', and that it can be opened so. -/
import Derived.Test.YtempmebpbbbkmaaPFnWagonsx13
import Derived.Test.YtempmebpbbbkmaaWOpen
namespace Go.Proofs.Ytempmebpbbbkmaa.PFnWagons
open Go.RowKit Go.Proofs.YtempmebpbbbkmaaW.PrintWords Go.Proofs.YtempmebpbbbkmaaW.PrintLast Go.Proofs.YtempmebpbbbkmaaW.PrintMore Go.Proofs.YtempmebpbbbkmaaW.Open
end Go.Proofs.Ytempmebpbbbkmaa.PFnWagons
