/- Words that this claim's texts lean on. -/
import Derived.Test.YtcjhmkhhhkcgkaaWInv
import Derived.Test.YtcjhmkhhhkcgkaaWFootNe

