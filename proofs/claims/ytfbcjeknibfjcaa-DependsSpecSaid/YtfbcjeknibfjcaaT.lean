/- What each parameter type's reading gives: the printed kinds. Written by lawrow.py. -/
import Derived.Test.YtfbcjeknibfjcaaP0
import Derived.Test.YtfbcjeknibfjcaaO
import Derived.KernelRfl
namespace Go.Proofs.Ytfbcjeknibfjcaa.P
open Go.RowKit Go.Proofs.YtfbcjeknibfjcaaW.PrintWords Go.Proofs.YtfbcjeknibfjcaaW.PrintLast Go.Proofs.YtfbcjeknibfjcaaO
set_option linter.unusedVariables false
def G94 (x : S94) : Prop := (Lit.int .i64 x.f0).wf = true ∧ (Lit.int .i64 x.f1).wf = true ∧ (Lit.int .i64 x.f2).wf = true ∧ x.f3.size ≤ maxLen ∧ (Lit.int .i64 x.f4).wf = true ∧ (x.f5.length ≤ maxLen ∧ ∀ y ∈ x.f5, y.size ≤ maxLen)
theorem opens94 : Opens Try.prog k94 94 G94 :=
  opens_weak (opens_iso (fun y => (⟨y.1, y.2.1, y.2.2.1, y.2.2.2.1, y.2.2.2.2.1, y.2.2.2.2.2⟩ : S94)) (fun _ => rfl) (opens_struct Try.underlying94 (ts := [3, 3, 3, 9, 3, 27]) (by kernel_rfl) (by kernel_rfl) (opens_next (opens_int Try.underlying3) (opens_next (opens_int Try.underlying3) (opens_next (opens_int Try.underlying3) (opens_next (opens_string Try.underlying9) (opens_next (opens_int Try.underlying3) (opens_last (opens_slice Try.underlying27 (by kernel_rfl) (opens_string Try.underlying9)))))))))) (fun _ h => h)
def G95 (x : S95) : Prop := (Lit.int .i64 x.f0).wf = true ∧ (Lit.int .i64 x.f1).wf = true ∧ (Lit.int .i64 x.f2).wf = true ∧ (Lit.int .i64 x.f3).wf = true
theorem opens95 : Opens Try.prog k95 95 G95 :=
  opens_weak (opens_iso (fun y => (⟨y.1, y.2.1, y.2.2.1, y.2.2.2⟩ : S95)) (fun _ => rfl) (opens_array (n := 4) (e := 3) rfl Try.underlying95 (by kernel_rfl) (opens_next (opens_int Try.underlying3) (opens_next (opens_int Try.underlying3) (opens_next (opens_int Try.underlying3) (opens_last (opens_int Try.underlying3))))))) (fun _ h => h)
def G97 (x : S97) : Prop := x.f0.size ≤ maxLen ∧ G94 x.f1 ∧ G95 x.f2
theorem opens97 : Opens Try.prog k97 97 G97 :=
  opens_weak (opens_iso (fun y => (⟨y.1, y.2.1, y.2.2⟩ : S97)) (fun _ => rfl) (opens_struct Try.underlying97 (ts := [9, 94, 95]) (by kernel_rfl) (by kernel_rfl) (opens_next (opens_string Try.underlying9) (opens_next opens94 (opens_last opens95))))) (fun _ h => h)
def G29 (x : S29) : Prop := (x.f0.length ≤ maxLen ∧ ∀ y ∈ x.f0, y.size ≤ maxLen) ∧ x.f1.size ≤ maxLen ∧ (x.f2.length ≤ maxLen ∧ ∀ y ∈ x.f2, (Lit.int .i64 y).wf = true) ∧ (Lit.int .i64 x.f3).wf = true
theorem opens29 : Opens Try.prog k29 29 G29 :=
  opens_weak (opens_iso (fun y => (⟨y.1, y.2.1, y.2.2.1, y.2.2.2⟩ : S29)) (fun _ => rfl) (opens_struct Try.underlying29 (ts := [27, 9, 26, 3]) (by kernel_rfl) (by kernel_rfl) (opens_next (opens_slice Try.underlying27 (by kernel_rfl) (opens_string Try.underlying9)) (opens_next (opens_string Try.underlying9) (opens_next (opens_slice Try.underlying26 (by kernel_rfl) (opens_int Try.underlying3)) (opens_last (opens_int Try.underlying3))))))) (fun _ h => h)
def G25 (x : S25) : Prop := x.f0.size ≤ maxLen ∧ x.f1.size ≤ maxLen ∧ (Lit.int .i64 x.f2).wf = true ∧ (Lit.int .i64 x.f3).wf = true ∧ (x.f4.length ≤ maxLen ∧ ∀ y ∈ x.f4, G97 y) ∧ (x.f5.length ≤ maxLen ∧ ∀ y ∈ x.f5, G29 y)
theorem opens25 : Opens Try.prog k25 25 G25 :=
  opens_weak (opens_iso (fun y => (⟨y.1, y.2.1, y.2.2.1, y.2.2.2.1, y.2.2.2.2.1, y.2.2.2.2.2⟩ : S25)) (fun _ => rfl) (opens_struct Try.underlying25 (ts := [9, 9, 3, 3, 22, 23]) (by kernel_rfl) (by kernel_rfl) (opens_next (opens_string Try.underlying9) (opens_next (opens_string Try.underlying9) (opens_next (opens_int Try.underlying3) (opens_next (opens_int Try.underlying3) (opens_next (opens_slice Try.underlying22 (by kernel_rfl) opens97) (opens_last (opens_slice Try.underlying23 (by kernel_rfl) opens29))))))))) (fun _ h => h)
end Go.Proofs.Ytfbcjeknibfjcaa.P
