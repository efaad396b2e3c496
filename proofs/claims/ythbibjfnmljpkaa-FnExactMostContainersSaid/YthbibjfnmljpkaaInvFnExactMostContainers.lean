/- What is known of an input that can be read at the types of 'FnExactMostContainers', and that it can be opened so. -/
import Derived.Test.YthbibjfnmljpkaaPFnExactMostContainersx9
import Derived.Test.YthbibjfnmljpkaaWOpen
namespace Go.Proofs.Ythbibjfnmljpkaa.PFnExactMostContainers
open Go.RowKit Go.Proofs.YthbibjfnmljpkaaW.PrintWords Go.Proofs.YthbibjfnmljpkaaW.PrintLast Go.Proofs.YthbibjfnmljpkaaW.PrintMore Go.Proofs.YthbibjfnmljpkaaW.Open
def inv63 (x : S63) : Prop := (Lit.int .i64 x.f0).wf = true ∧ (Lit.int .i64 x.f1).wf = true
theorem op63 : Opens Try.prog 63 k63 inv63 := op_struct (fun x : S63 => (x.f0, x.f1)) (fun a => (⟨a.1, a.2⟩ : S63)) (fun _ => rfl) Try.underlying63 (by kernel_rfl) (fo_cons rfl (by kernel_rfl) (op_int Try.underlying3) (fo_one rfl (by kernel_rfl) (op_int Try.underlying3)))
def inv59 (x : S59) : Prop := x.f0.size ≤ 9223372036854775807 ∧ (Lit.int .i64 x.f1).wf = true ∧ (Lit.int .i64 x.f2).wf = true ∧ (Lit.int .i64 x.f3).wf = true ∧ (Lit.int .i64 x.f4).wf = true
theorem op59 : Opens Try.prog 59 k59 inv59 := op_struct (fun x : S59 => (x.f0, x.f1, x.f2, x.f3, x.f4)) (fun a => (⟨a.1, a.2.1, a.2.2.1, a.2.2.2.1, a.2.2.2.2⟩ : S59)) (fun _ => rfl) Try.underlying59 (by kernel_rfl) (fo_cons rfl (by kernel_rfl) (op_string Try.underlying9) (fo_cons rfl (by kernel_rfl) (op_int Try.underlying3) (fo_cons rfl (by kernel_rfl) (op_int Try.underlying3) (fo_cons rfl (by kernel_rfl) (op_int Try.underlying3) (fo_one rfl (by kernel_rfl) (op_int Try.underlying3))))))
end Go.Proofs.Ythbibjfnmljpkaa.PFnExactMostContainers
