/- Words that this claim's texts lean on. -/
import Derived.Test.YtglfjaaaegfdnaaWWords
import Derived.Laws.StructEq

