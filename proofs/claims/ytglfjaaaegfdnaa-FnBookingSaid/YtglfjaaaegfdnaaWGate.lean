/- Words that this claim's texts lean on. -/
import Derived.Test.YtglfjaaaegfdnaaProg
import Derived.Test.YtglfjaaaegfdnaaWWords
import Derived.Test.YtglfjaaaegfdnaaWLast
import Derived.Test.YtglfjaaaegfdnaaWMore
import Derived.Test.YtglfjaaaegfdnaaWApart
import Derived.Test.YtglfjaaaegfdnaaWKept
namespace Go.Proofs.YtglfjaaaegfdnaaW.PrintWords
theorem Kd.S_ge {α : Type} {d : Kd α} {e base : Nat} {w : World} {ok : Nat → Prop} {v : Value} {xs : List α} (h : Kd.S d e w base ok v xs) : Kd.S d e w base (fun k => ok k ∧ base ≤ k) v xs := Kd.S_mono (Kd.S_bound h) (fun _ hk => ⟨hk.1, hk.2.1⟩)
theorem Kd.FK_row {α : Type} {d : Kd α} {e e' base : Nat} {W : World} {ok : Nat → Prop} {v : Value} {xs : List α} (h : d.R e W base ok v xs) : Kd.FK (Kd.slice e' d) W ok xs [v] := by
  obtain ⟨A, c, rfl⟩ := Kd.R_slice h
  exact Kd.FK_slice_mk (Kd.R_reads' h).2.1 (Kd.R_F h)
end Go.Proofs.YtglfjaaaegfdnaaW.PrintWords

