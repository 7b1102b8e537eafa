/- The plain law of SpansSetsSpec: what its printed function answers. -/
import Derived.Test.YtcemfklhbgnflaaP6
import Derived.Test.YtcemfklhbgnflaaM3
namespace Go.Proofs.Ytcemfklhbgnflaa.P
open Go.RowKit Go.Proofs.YtcemfklhbgnflaaW.PrintWords Go.Proofs.YtcemfklhbgnflaaW.PrintLast Go.Proofs.YtcemfklhbgnflaaO
set_option linter.unusedVariables false

/-- The pure statement of the law. -/
def testamurlaw03_SpansSetsSpec.Pure : Prop := ∀ (l0 : List (S31)) (l1 : List (S31)), l0.length ≤ maxLen → l0.length * 16 ≤ 140737488351232 → (∀ x ∈ l0, G31 x) → l1.length ≤ maxLen → l1.length * 16 ≤ 140737488351232 → (∀ x ∈ l1, G31 x) → ∃ k, testamurlaw03_SpansSetsSpec.f k l0 l1 = some true

theorem pureSpansSetsSpec : testamurlaw03_SpansSetsSpec.Pure := by
  intro a b _ ha _ _ hb _
  have ha' : a.length ≤ 9223372036854775806 := by omega
  have hb' : b.length ≤ 9223372036854775806 := by omega
  have fin : ∀ x, Ev (fun k => testamurlaw03_SpansSetsSpec.j1 k a b x) true := by
    intro x
    cases x
    · refine Ev.step (f := fun k => testamurlaw03_SpansSetsSpec.j2 k a b) (fun k => by rw [testamurlaw03_SpansSetsSpec.j1]; rfl) ?_
      refine Ev.step (fun k => by rw [testamurlaw03_SpansSetsSpec.j2, union_f, meet_f, minus_f]) ?_
      simp only [Option.bind_some]
      refine Ev.bind (rUnion_ev a b ha' hb') ?_
      refine Ev.bind (same_nrm fun _ _ => rfl) ?_
      simp only [if_true]
      refine Ev.bind (rMeet_ev a b ha' hb') ?_
      refine Ev.bind (same_nrm fun _ _ => rfl) ?_
      simp only [if_true]
      refine Ev.bind (rMinus_ev a b ha' hb') ?_
      exact Ev.bind (f := fun k t => some t) (same_nrm fun _ _ => rfl) (Ev.now _)
    · exact Ev.step (f := fun _ => some true) (fun k => by rw [testamurlaw03_SpansSetsSpec.j1]; rfl) (Ev.now _)
  refine Ev.rounds (Ev.bind (f := fun k t => if t = true then testamurlaw03_SpansSetsSpec.j0 k a b else none) sane_ev ?_)
  simp only [if_true]
  refine Ev.step (f := fun k => if decide ((a.length : Int) ≤ 40) = true then testamurlaw03_SpansSetsSpec.j1 k a b (!decide ((b.length : Int) ≤ 40)) else testamurlaw03_SpansSetsSpec.j1 k a b true) (fun k => by rw [testamurlaw03_SpansSetsSpec.j0, testamurref03_Few.f]; rfl) ?_
  split
  · exact fin _
  · exact fin _

end Go.Proofs.Ytcemfklhbgnflaa.P
