/- Words that this claim's texts lean on. -/
import Derived.Test.YtpelcaijjdgnoaaDoorWWords
import Derived.Test.YtpelcaijjdgnoaaDoorWLast
import Derived.Test.YtpelcaijjdgnoaaDoorWMore

