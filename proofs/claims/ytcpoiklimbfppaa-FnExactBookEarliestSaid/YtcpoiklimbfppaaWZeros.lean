/- Words that this claim's texts lean on. -/
import Derived.Test.YtcpoiklimbfppaaWApart
import Derived.Test.YtcpoiklimbfppaaWArr

