/- Words that this claim's texts lean on. -/
import Derived.Test.YtpelcaijjdgnoaaDoorWApart
import Derived.Test.YtpelcaijjdgnoaaDoorWArr

