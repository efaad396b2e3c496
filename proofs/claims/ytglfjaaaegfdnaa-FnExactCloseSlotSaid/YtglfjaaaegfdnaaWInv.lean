/- Words that this claim's texts lean on. -/
import Derived.Test.YtglfjaaaegfdnaaWTab
namespace Go.Proofs.YtglfjaaaegfdnaaW.PrintLast
def up (b : Nat → Bool) (i : Nat) : Nat → Bool := fun j => if j = i then true else b j
end Go.Proofs.YtglfjaaaegfdnaaW.PrintLast

