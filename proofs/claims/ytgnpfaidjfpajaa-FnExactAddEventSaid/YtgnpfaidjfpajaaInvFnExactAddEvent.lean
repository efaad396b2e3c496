/- What is known of an input that can be read at the types of 'FnExactAddEvent', and that it can be opened so. -/
import Derived.Test.YtgnpfaidjfpajaaPFnExactAddEventx6
import Derived.Test.YtgnpfaidjfpajaaWOpen
namespace Go.Proofs.Ytgnpfaidjfpajaa.PFnExactAddEvent
open Go.RowKit Go.Proofs.YtgnpfaidjfpajaaW.PrintWords Go.Proofs.YtgnpfaidjfpajaaW.PrintLast Go.Proofs.YtgnpfaidjfpajaaW.PrintMore Go.Proofs.YtgnpfaidjfpajaaW.Open
def inv34 (x : S34) : Prop := (Lit.int .i64 x.f0).wf = true ∧ (Lit.int .i64 x.f1).wf = true
theorem op34 : Opens Try.prog 34 k34 inv34 := op_struct (fun x : S34 => (x.f0, x.f1)) (fun a => (⟨a.1, a.2⟩ : S34)) (fun _ => rfl) Try.underlying34 (by kernel_rfl) (fo_cons rfl (by kernel_rfl) (op_int Try.underlying3) (fo_one rfl (by kernel_rfl) (op_int Try.underlying3)))
end Go.Proofs.Ytgnpfaidjfpajaa.PFnExactAddEvent
