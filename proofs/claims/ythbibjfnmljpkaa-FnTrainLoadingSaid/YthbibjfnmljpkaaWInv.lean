/- Words that this claim's texts lean on. -/
import Derived.Test.YthbibjfnmljpkaaWTab
namespace Go.Proofs.YthbibjfnmljpkaaW.PrintLast
def up (b : Nat → Bool) (i : Nat) : Nat → Bool := fun j => if j = i then true else b j
end Go.Proofs.YthbibjfnmljpkaaW.PrintLast

