/- What is known of an input that can be read at the types of 'FnTariffs', and that it can be opened so. -/
import Derived.Test.YtciecfaeeogdoaaGreatDoorPFnTariffsx16
import Derived.Test.YtciecfaeeogdoaaGreatDoorWOpen
namespace Go.Proofs.YtciecfaeeogdoaaGreatDoor.PFnTariffs
open Go.RowKit Go.Proofs.YtciecfaeeogdoaaGreatDoorW.PrintWords Go.Proofs.YtciecfaeeogdoaaGreatDoorW.PrintLast Go.Proofs.YtciecfaeeogdoaaGreatDoorW.PrintMore Go.Proofs.YtciecfaeeogdoaaGreatDoorW.Open
end Go.Proofs.YtciecfaeeogdoaaGreatDoor.PFnTariffs
