/- A row of rows' blocks are of the call's own. No condition beyond what each theorem states. -/
import Derived.Test.YtcpoiklimbfppaaProg
import Derived.Test.YtcpoiklimbfppaaWWords
import Derived.Test.YtcpoiklimbfppaaWLast
import Derived.Test.YtcpoiklimbfppaaWMore
import Derived.Test.YtcpoiklimbfppaaWApart
import Derived.Test.YtcpoiklimbfppaaWKept
namespace Go.Proofs.YtcpoiklimbfppaaW.PrintWords
/-- The blocks are of the call's own. -/
theorem Kd.S_ge {α : Type} {d : Kd α} {e base : Nat} {w : World} {ok : Nat → Prop} {v : Value} {xs : List α} (h : Kd.S d e w base ok v xs) : Kd.S d e w base (fun k => ok k ∧ base ≤ k) v xs := Kd.S_mono (Kd.S_bound h) (fun _ hk => ⟨hk.1, hk.2.1⟩)
end Go.Proofs.YtcpoiklimbfppaaW.PrintWords
