/- What is known of an input that can be read at the types of 'FnFiles', and that it can be opened so. -/
import Derived.Test.YtcjhmkhhhkcgkaaPFnFilesx14
import Derived.Test.YtcjhmkhhhkcgkaaWOpen
namespace Go.Proofs.Ytcjhmkhhhkcgkaa.PFnFiles
open Go.RowKit Go.Proofs.YtcjhmkhhhkcgkaaW.PrintWords Go.Proofs.YtcjhmkhhhkcgkaaW.PrintLast Go.Proofs.YtcjhmkhhhkcgkaaW.PrintMore Go.Proofs.YtcjhmkhhhkcgkaaW.Open
end Go.Proofs.Ytcjhmkhhhkcgkaa.PFnFiles
