/- What is known of an input that can be read at the types of 'FnExactHeldContainers', and that it can be opened so. -/
import Derived.Test.YteebkbikpamkmaaPFnExactHeldContainersx10
import Derived.Test.YteebkbikpamkmaaWOpen
namespace Go.Proofs.Yteebkbikpamkmaa.PFnExactHeldContainers
open Go.RowKit Go.Proofs.YteebkbikpamkmaaW.PrintWords Go.Proofs.YteebkbikpamkmaaW.PrintLast Go.Proofs.YteebkbikpamkmaaW.PrintMore Go.Proofs.YteebkbikpamkmaaW.Open
def inv72 (x : S72) : Prop := (Lit.int .i64 x.f0).wf = true ∧ x.f1.size ≤ 9223372036854775807 ∧ True ∧ (Lit.int .i64 x.f3).wf = true
theorem op72 : Opens Try.prog 72 k72 inv72 := op_struct (fun x : S72 => (x.f0, x.f1, x.f2, x.f3)) (fun a => (⟨a.1, a.2.1, a.2.2.1, a.2.2.2⟩ : S72)) (fun _ => rfl) Try.underlying72 (by kernel_rfl) (fo_cons rfl (by kernel_rfl) (op_int Try.underlying3) (fo_cons rfl (by kernel_rfl) (op_string Try.underlying9) (fo_cons rfl (by kernel_rfl) (op_bool Try.underlying4) (fo_one rfl (by kernel_rfl) (op_int Try.underlying3)))))
end Go.Proofs.Yteebkbikpamkmaa.PFnExactHeldContainers
