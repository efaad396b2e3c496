/- Words that this claim's texts lean on. -/
import Derived.Maps.Own
import Derived.Maps.OwnOps
import Derived.Maps.Views
import Derived.StringKeys
import Derived.Test.YthogpinmmddicaaDoorWWords
import Derived.Test.YthogpinmmddicaaDoorWLast
import Derived.Test.YthogpinmmddicaaDoorWMore
namespace Go.Proofs.YthogpinmmddicaaDoorW.PrintMore
open Go.RowKit Go.Maps Go.WideMaps Go.Proofs.YthogpinmmddicaaDoorW.PrintWords Go.Proofs.YthogpinmmddicaaDoorW.PrintLast
set_option linter.unusedVariables false

def mlook.f (m : ByteArray → Int) (s : ByteArray) : Option Int := if s.size ≤ 9223372036854775807 then some (m s) else none
def mput.f (m : ByteArray → Int) (s : ByteArray) (v : Int) : Option (ByteArray → Int) := if s.size ≤ 9223372036854775807 ∧ -9223372036854775808 ≤ v ∧ v ≤ 9223372036854775807 then some (fun x => if x = s then v else m x) else none
end Go.Proofs.YthogpinmmddicaaDoorW.PrintMore

