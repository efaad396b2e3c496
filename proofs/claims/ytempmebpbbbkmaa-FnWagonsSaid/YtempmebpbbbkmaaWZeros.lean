/- Words that this claim's texts lean on. -/
import Derived.Test.YtempmebpbbbkmaaWApart
import Derived.Test.YtempmebpbbbkmaaWArr

