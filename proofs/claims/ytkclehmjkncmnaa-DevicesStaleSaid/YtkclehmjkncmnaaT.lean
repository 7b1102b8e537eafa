/- What each parameter type's reading gives: the printed kinds. Written by lawrow.py. -/
import Derived.Test.YtkclehmjkncmnaaP0
import Derived.Test.YtkclehmjkncmnaaO
import Derived.KernelRfl
namespace Go.Proofs.Ytkclehmjkncmnaa.P
open Go.RowKit Go.Proofs.YtkclehmjkncmnaaW.PrintWords Go.Proofs.YtkclehmjkncmnaaW.PrintLast Go.Proofs.YtkclehmjkncmnaaO
set_option linter.unusedVariables false
def G40 (x : S40) : Prop := (Lit.int .i64 x.f0).wf = true ∧ (Lit.int .i64 x.f1).wf = true ∧ (Lit.int .i64 x.f2).wf = true ∧ (Lit.int .i64 x.f3).wf = true ∧ (Lit.int .i64 x.f4).wf = true ∧ (Lit.int .i64 x.f5).wf = true
theorem opens40 : Opens Try.prog k40 40 G40 :=
  opens_weak (opens_iso (fun y => (⟨y.1, y.2.1, y.2.2.1, y.2.2.2.1, y.2.2.2.2.1, y.2.2.2.2.2⟩ : S40)) (fun _ => rfl) (opens_struct Try.underlying40 (ts := [3, 3, 3, 3, 3, 3]) (by kernel_rfl) (by kernel_rfl) (opens_next (opens_int Try.underlying3) (opens_next (opens_int Try.underlying3) (opens_next (opens_int Try.underlying3) (opens_next (opens_int Try.underlying3) (opens_next (opens_int Try.underlying3) (opens_last (opens_int Try.underlying3))))))))) (fun _ h => h)
def G31 (x : S31) : Prop := (Lit.int .i64 x.f0).wf = true ∧ (Lit.int .i64 x.f1).wf = true ∧ (x.f2.length ≤ maxLen ∧ ∀ y ∈ x.f2, G40 y) ∧ True
theorem opens31 : Opens Try.prog k31 31 G31 :=
  opens_weak (opens_iso (fun y => (⟨y.1, y.2.1, y.2.2.1, y.2.2.2⟩ : S31)) (fun _ => rfl) (opens_struct Try.underlying31 (ts := [3, 3, 26, 4]) (by kernel_rfl) (by kernel_rfl) (opens_next (opens_int Try.underlying3) (opens_next (opens_int Try.underlying3) (opens_next (opens_slice Try.underlying26 (by kernel_rfl) opens40) (opens_last (opens_bool Try.underlying4))))))) (fun _ h => h)
def G79 (x : S79) : Prop := (Lit.int .u8 x.f0).wf = true ∧ (Lit.int .u8 x.f1).wf = true ∧ (Lit.int .u8 x.f2).wf = true ∧ (Lit.int .u8 x.f3).wf = true ∧ (Lit.int .u8 x.f4).wf = true ∧ True
theorem opens79 : Opens Try.prog k79 79 G79 :=
  opens_weak (opens_iso (fun y => (⟨y.1, y.2.1, y.2.2.1, y.2.2.2.1, y.2.2.2.2.1, y.2.2.2.2.2⟩ : S79)) (fun _ => rfl) (opens_struct Try.underlying79 (ts := [5, 5, 5, 5, 5, 4]) (by kernel_rfl) (by kernel_rfl) (opens_next (opens_int Try.underlying5) (opens_next (opens_int Try.underlying5) (opens_next (opens_int Try.underlying5) (opens_next (opens_int Try.underlying5) (opens_next (opens_int Try.underlying5) (opens_last (opens_bool Try.underlying4))))))))) (fun _ h => h)
end Go.Proofs.Ytkclehmjkncmnaa.P
