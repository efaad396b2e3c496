/- Words that this claim's texts lean on. -/
import Derived.Deep.Slices
import Derived.ChangeArms
import Derived.ChangeShapes
import Derived.WideShapes
import Derived.RowKit
import Derived.Test.YthogpinmmddicaaDoorWWords
namespace Go.Proofs.YthogpinmmddicaaDoorW.Open
open Go.RowKit Go.ChangeShapes Go.WideShapes Go.Deep Go.Proofs.YthogpinmmddicaaDoorW.PrintWords
set_option linter.unusedVariables false

end Go.Proofs.YthogpinmmddicaaDoorW.Open

