/- Words that this claim's texts lean on. -/
import Derived.Test.YtcjhmkhhhkcgkaaWWords
import Derived.Test.YtcjhmkhhhkcgkaaWLast
import Derived.Test.YtcjhmkhhhkcgkaaWMore

