/- Words that this claim's texts lean on. -/
import Derived.Test.YtciecfaeeogdoaaGreatDoorProg
import Derived.Test.YtciecfaeeogdoaaGreatDoorWWords
import Derived.Test.YtciecfaeeogdoaaGreatDoorWLast
import Derived.Test.YtciecfaeeogdoaaGreatDoorWMore
import Derived.Lib.Walk
import Derived.Lib.Walk
import Derived.Lib.AtoiErrMem
import Derived.Lib.LaidTab
import Derived.Lib.ItoaNum
namespace Go.Proofs.YtciecfaeeogdoaaGreatDoorW.Met
open Go.RowKit Go.Proofs.YtciecfaeeogdoaaGreatDoorW.PrintWords Go.Proofs.YtciecfaeeogdoaaGreatDoorW.PrintLast Go.Proofs.YtciecfaeeogdoaaGreatDoorW.PrintMore
theorem TabIs_below {P : Program} {w w1 : World} {name : String} {k : IntKind} {zs : List Int} (h : Lib.TabIs P w name k zs) (hb : Below w.heap.size w w1) : Lib.TabIs P w1 name k zs := by
  unfold Lib.TabIs World.var? at h ⊢
  cases hg : P.globalNamed name with
  | none => rw [hg] at h; cases h
  | some g =>
    rw [hg] at h
    simp only [Option.bind_some] at h ⊢
    cases hw : w.heap[g]? with
    | none => rw [hw] at h; cases h
    | some o =>
      rw [hb.block g (blk_lt hw), hw]
      rw [hw] at h
      exact h
def Met (w : World) : Prop := Lib.TabIs Tryz.prog w "internal/strconv.uint64pow10" .u64 Lib.pow10Tab ∧ (∃ m, w.cell? ⟨0, 0, none⟩ = some (.int .i64 m)) ∧ (∃ te pe, w.cell? ⟨1, 0, none⟩ = some (.iface te pe)) ∧ (∃ te pe, w.cell? ⟨2, 0, none⟩ = some (.iface te pe))
theorem Met.below {w w1 : World} (h : Met w) (hb : Below w.heap.size w w1) : Met w1 := by
  obtain ⟨h1, ⟨m, h2⟩, ⟨te, pe, h3⟩, ⟨tr, pr, h4⟩⟩ := h
  exact ⟨TabIs_below h1 hb, ⟨m, (hb.cell (p := ⟨0, 0, none⟩) (Lib.lt_of_cell h2)).trans h2⟩, ⟨te, pe, (hb.cell (p := ⟨1, 0, none⟩) (Lib.lt_of_cell h3)).trans h3⟩, ⟨tr, pr, (hb.cell (p := ⟨2, 0, none⟩) (Lib.lt_of_cell h4)).trans h4⟩⟩
end Go.Proofs.YtciecfaeeogdoaaGreatDoorW.Met

