/- Words that this claim's texts lean on. -/
import Derived.Test.YteebkbikpamkmaaWWords
import Derived.Test.YteebkbikpamkmaaWLast
import Derived.Test.YteebkbikpamkmaaWMore

