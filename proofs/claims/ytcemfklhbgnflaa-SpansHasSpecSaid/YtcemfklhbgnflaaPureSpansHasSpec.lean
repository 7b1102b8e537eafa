/- The plain law of SpansHasSpec: what its printed function answers. -/
import Derived.Test.YtcemfklhbgnflaaP7
import Derived.Test.YtcemfklhbgnflaaM3
namespace Go.Proofs.Ytcemfklhbgnflaa.P
open Go.RowKit Go.Proofs.YtcemfklhbgnflaaW.PrintWords Go.Proofs.YtcemfklhbgnflaaW.PrintLast Go.Proofs.YtcemfklhbgnflaaO
set_option linter.unusedVariables false

/-- The pure statement of the law. -/
def testamurlaw03_SpansHasSpec.Pure : Prop := ∀ (l0 : List (S31)) (a1 : Int) (x2 : S31), l0.length ≤ maxLen → l0.length * 16 ≤ 140737488351232 → (∀ x ∈ l0, G31 x) → (Lit.int .i64 a1).wf = true → G31 x2 → ∃ k, testamurlaw03_SpansHasSpec.f k l0 a1 x2.f0 x2.f1 = some true

theorem pureSpansHasSpec : testamurlaw03_SpansHasSpec.Pure := by
  intro l a x _ hl _ _ _
  have hl' : l.length ≤ 9223372036854775806 := by omega
  refine Ev.rounds (Ev.bind (f := fun k t => if t = true then testamurlaw03_SpansHasSpec.j0 k l a x.f0 x.f1 else none) sane_ev ?_)
  simp only [if_true]
  refine Ev.step (f := fun k => if decide ((l.length : Int) ≤ 40) = true then testamurlaw03_SpansHasSpec.j1 k l a x.f0 x.f1 else some true) (fun k => by rw [testamurlaw03_SpansHasSpec.j0, testamurref03_Few.f]; rfl) ?_
  split
  · refine Ev.step (fun k => by rw [testamurlaw03_SpansHasSpec.j1, covers_f, spans_Has.f]) ?_
    simp only [Option.bind_some]
    refine Ev.bind (rhas_ev l a hl') ?_
    simp only [beq_self_eq_true, if_true]
    refine Ev.bind (f := fun k t => some (cov l x.f0 x.f1 == t)) (rcovers_ev l x.f0 x.f1 hl') ?_
    rw [beq_self_eq_true]
    exact Ev.now _
  · exact Ev.now _

end Go.Proofs.Ytcemfklhbgnflaa.P
