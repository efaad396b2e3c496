/- Words that this claim's texts lean on. -/
import Derived.Test.YteebkbikpamkmaaWApart
import Derived.Test.YteebkbikpamkmaaWArr

