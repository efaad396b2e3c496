/- What is known of an input that can be read at the types of 'FnExactEmptyWagons', and that it can be opened so. -/
import Derived.Test.YthfbnadlpninaaaPFnExactEmptyWagonsx10
import Derived.Test.YthfbnadlpninaaaWOpen
namespace Go.Proofs.Ythfbnadlpninaaa.PFnExactEmptyWagons
open Go.RowKit Go.Proofs.YthfbnadlpninaaaW.PrintWords Go.Proofs.YthfbnadlpninaaaW.PrintLast Go.Proofs.YthfbnadlpninaaaW.PrintMore Go.Proofs.YthfbnadlpninaaaW.Open
def inv74 (x : S74) : Prop := (Lit.int .i64 x.f0).wf = true ∧ (Lit.int .i64 x.f1).wf = true
theorem op74 : Opens Try.prog 74 k74 inv74 := op_struct (fun x : S74 => (x.f0, x.f1)) (fun a => (⟨a.1, a.2⟩ : S74)) (fun _ => rfl) Try.underlying74 (by kernel_rfl) (fo_cons rfl (by kernel_rfl) (op_int Try.underlying3) (fo_one rfl (by kernel_rfl) (op_int Try.underlying3)))
def inv80 (x : S80) : Prop := x.f0.size ≤ 9223372036854775807 ∧ (Lit.int .i64 x.f1).wf = true ∧ (Lit.int .i64 x.f2).wf = true ∧ (Lit.int .i64 x.f3).wf = true ∧ (Lit.int .i64 x.f4).wf = true
theorem op80 : Opens Try.prog 80 k80 inv80 := op_struct (fun x : S80 => (x.f0, x.f1, x.f2, x.f3, x.f4)) (fun a => (⟨a.1, a.2.1, a.2.2.1, a.2.2.2.1, a.2.2.2.2⟩ : S80)) (fun _ => rfl) Try.underlying80 (by kernel_rfl) (fo_cons rfl (by kernel_rfl) (op_string Try.underlying9) (fo_cons rfl (by kernel_rfl) (op_int Try.underlying3) (fo_cons rfl (by kernel_rfl) (op_int Try.underlying3) (fo_cons rfl (by kernel_rfl) (op_int Try.underlying3) (fo_one rfl (by kernel_rfl) (op_int Try.underlying3))))))
end Go.Proofs.Ythfbnadlpninaaa.PFnExactEmptyWagons
