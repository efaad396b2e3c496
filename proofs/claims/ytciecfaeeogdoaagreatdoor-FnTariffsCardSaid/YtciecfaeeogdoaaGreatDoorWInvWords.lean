/- Words that this claim's texts lean on. -/
import Derived.Test.YtciecfaeeogdoaaGreatDoorWInv
import Derived.Test.YtciecfaeeogdoaaGreatDoorWFootNe

