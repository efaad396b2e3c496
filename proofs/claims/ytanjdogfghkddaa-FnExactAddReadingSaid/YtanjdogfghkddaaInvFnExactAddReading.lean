/- What is known of an input that can be read at the types of 'FnExactAddReading', and that it can be opened so. -/
import Derived.Test.YtanjdogfghkddaaPFnExactAddReadingx7
import Derived.Test.YtanjdogfghkddaaWOpen
namespace Go.Proofs.Ytanjdogfghkddaa.PFnExactAddReading
open Go.RowKit Go.Proofs.YtanjdogfghkddaaW.PrintWords Go.Proofs.YtanjdogfghkddaaW.PrintLast Go.Proofs.YtanjdogfghkddaaW.PrintMore Go.Proofs.YtanjdogfghkddaaW.Open
def inv24 (x : S24) : Prop := (Lit.int .i64 x.f0).wf = true ∧ (Lit.int .i64 x.f1).wf = true ∧ True
theorem op24 : Opens Try.prog 24 k24 inv24 := op_struct (fun x : S24 => (x.f0, x.f1, x.f2)) (fun a => (⟨a.1, a.2.1, a.2.2⟩ : S24)) (fun _ => rfl) Try.underlying24 (by kernel_rfl) (fo_cons rfl (by kernel_rfl) (op_int Try.underlying3) (fo_cons rfl (by kernel_rfl) (op_int Try.underlying3) (fo_one rfl (by kernel_rfl) (op_bool Try.underlying4))))
end Go.Proofs.Ytanjdogfghkddaa.PFnExactAddReading
