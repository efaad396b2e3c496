/- What is known of an input that can be read at the types of 'FnExactPlugHours', and that it can be opened so. -/
import Derived.Test.YtjfookckobpheaaPFnExactPlugHoursx6
import Derived.Test.YtjfookckobpheaaWOpen
namespace Go.Proofs.Ytjfookckobpheaa.PFnExactPlugHours
open Go.RowKit Go.Proofs.YtjfookckobpheaaW.PrintWords Go.Proofs.YtjfookckobpheaaW.PrintLast Go.Proofs.YtjfookckobpheaaW.PrintMore Go.Proofs.YtjfookckobpheaaW.Open
def inv49 (x : S49) : Prop := (Lit.int .i64 x.f0).wf = true ∧ (Lit.int .i64 x.f1).wf = true ∧ True
theorem op49 : Opens Try.prog 49 k49 inv49 := op_struct (fun x : S49 => (x.f0, x.f1, x.f2)) (fun a => (⟨a.1, a.2.1, a.2.2⟩ : S49)) (fun _ => rfl) Try.underlying49 (by kernel_rfl) (fo_cons rfl (by kernel_rfl) (op_int Try.underlying3) (fo_cons rfl (by kernel_rfl) (op_int Try.underlying3) (fo_one rfl (by kernel_rfl) (op_bool Try.underlying4))))
end Go.Proofs.Ytjfookckobpheaa.PFnExactPlugHours
