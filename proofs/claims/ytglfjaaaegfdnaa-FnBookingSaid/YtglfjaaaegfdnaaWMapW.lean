/- Words that this claim's texts lean on. -/
import Derived.Maps.Own
import Derived.Maps.OwnOps
import Derived.Maps.Views
import Derived.StringKeys
import Derived.Test.YtglfjaaaegfdnaaWWords
import Derived.Test.YtglfjaaaegfdnaaWLast
import Derived.Test.YtglfjaaaegfdnaaWMore
namespace Go.Proofs.YtglfjaaaegfdnaaW.PrintMore
open Go.RowKit Go.Maps Go.WideMaps Go.Proofs.YtglfjaaaegfdnaaW.PrintWords Go.Proofs.YtglfjaaaegfdnaaW.PrintLast
set_option linter.unusedVariables false

def mlook.f (m : ByteArray → Int) (s : ByteArray) : Option Int := if s.size ≤ 9223372036854775807 then some (m s) else none
def mput.f (m : ByteArray → Int) (s : ByteArray) (v : Int) : Option (ByteArray → Int) := if s.size ≤ 9223372036854775807 ∧ -9223372036854775808 ≤ v ∧ v ≤ 9223372036854775807 then some (fun x => if x = s then v else m x) else none
theorem mlook.of {m : ByteArray → Int} {s : ByteArray} {c : Int} (h : mlook.f m s = some c) : s.size ≤ 9223372036854775807 ∧ c = m s := by
  unfold mlook.f at h
  split at h
  · exact ⟨by assumption, (Option.some.inj h).symm⟩
  · cases h
theorem mput.of {m m' : ByteArray → Int} {s : ByteArray} {v : Int} (h : mput.f m s v = some m') : (s.size ≤ 9223372036854775807 ∧ -9223372036854775808 ≤ v ∧ v ≤ 9223372036854775807) ∧ m' = fun x => if x = s then v else m x := by
  unfold mput.f at h
  split at h
  · exact ⟨by assumption, (Option.some.inj h).symm⟩
  · cases h
end Go.Proofs.YtglfjaaaegfdnaaW.PrintMore

