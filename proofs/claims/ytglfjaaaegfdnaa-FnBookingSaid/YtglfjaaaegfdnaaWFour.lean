/- Words that this claim's texts lean on. -/
import Derived.Test.YtglfjaaaegfdnaaWTab

