/- Words that this claim's texts lean on. -/
import Derived.Test.YthogpinmmddicaaDoorWApart
import Derived.Test.YthogpinmmddicaaDoorWArr

