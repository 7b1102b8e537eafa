/- What each parameter type's reading gives: the printed kinds. Written by lawrow.py. -/
import Derived.Test.YtcemfklhbgnflaaP0
import Derived.Test.YtcemfklhbgnflaaO
import Derived.KernelRfl
namespace Go.Proofs.Ytcemfklhbgnflaa.P
open Go.RowKit Go.Proofs.YtcemfklhbgnflaaW.PrintWords Go.Proofs.YtcemfklhbgnflaaW.PrintLast Go.Proofs.YtcemfklhbgnflaaO
set_option linter.unusedVariables false
def G31 (x : S31) : Prop := (Lit.int .i64 x.f0).wf = true ∧ (Lit.int .i64 x.f1).wf = true
theorem opens31 : Opens Try.prog k31 31 G31 :=
  opens_weak (opens_iso (fun y => (⟨y.1, y.2⟩ : S31)) (fun _ => rfl) (opens_struct Try.underlying31 (ts := [3, 3]) (by kernel_rfl) (by kernel_rfl) (opens_next (opens_int Try.underlying3) (opens_last (opens_int Try.underlying3))))) (fun _ h => h)
end Go.Proofs.Ytcemfklhbgnflaa.P
