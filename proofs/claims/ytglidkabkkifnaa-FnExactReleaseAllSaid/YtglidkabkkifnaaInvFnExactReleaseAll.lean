/- What is known of an input that can be read at the types of 'FnExactReleaseAll', and that it can be opened so. -/
import Derived.Test.YtglidkabkkifnaaPFnExactReleaseAllx10
import Derived.Test.YtglidkabkkifnaaWOpen
namespace Go.Proofs.Ytglidkabkkifnaa.PFnExactReleaseAll
open Go.RowKit Go.Proofs.YtglidkabkkifnaaW.PrintWords Go.Proofs.YtglidkabkkifnaaW.PrintLast Go.Proofs.YtglidkabkkifnaaW.PrintMore Go.Proofs.YtglidkabkkifnaaW.Open
def inv52 (x : S52) : Prop := (Lit.int .i64 x.f0).wf = true ∧ x.f1.size ≤ 9223372036854775807 ∧ True ∧ (Lit.int .i64 x.f3).wf = true
theorem op52 : Opens Try.prog 52 k52 inv52 := op_struct (fun x : S52 => (x.f0, x.f1, x.f2, x.f3)) (fun a => (⟨a.1, a.2.1, a.2.2.1, a.2.2.2⟩ : S52)) (fun _ => rfl) Try.underlying52 (by kernel_rfl) (fo_cons rfl (by kernel_rfl) (op_int Try.underlying3) (fo_cons rfl (by kernel_rfl) (op_string Try.underlying9) (fo_cons rfl (by kernel_rfl) (op_bool Try.underlying4) (fo_one rfl (by kernel_rfl) (op_int Try.underlying3)))))
end Go.Proofs.Ytglidkabkkifnaa.PFnExactReleaseAll
