/- The plain law of SpansSpec: what its printed function answers. -/
import Derived.Test.YtcemfklhbgnflaaP5
import Derived.Test.YtcemfklhbgnflaaM3
namespace Go.Proofs.Ytcemfklhbgnflaa.P
open Go.RowKit Go.Proofs.YtcemfklhbgnflaaW.PrintWords Go.Proofs.YtcemfklhbgnflaaW.PrintLast Go.Proofs.YtcemfklhbgnflaaO
set_option linter.unusedVariables false

/-- The pure statement of the law. -/
def testamurlaw03_SpansSpec.Pure : Prop := ∀ (l0 : List (S31)), l0.length ≤ maxLen → l0.length * 16 ≤ 140737488351232 → (∀ x ∈ l0, G31 x) → ∃ k, testamurlaw03_SpansSpec.f k l0 = some true

theorem pureSpansSpec : testamurlaw03_SpansSpec.Pure := by
  intro l _ hl _
  have hl' : l.length ≤ 9223372036854775806 := by omega
  refine Ev.rounds (Ev.bind (f := fun k t => if t = true then testamurlaw03_SpansSpec.j0 k l else none) sane_ev ?_)
  simp only [if_true]
  refine Ev.step (f := fun k => if decide ((l.length : Int) ≤ 40) = true then testamurlaw03_SpansSpec.j1 k l else some true) (fun k => by rw [testamurlaw03_SpansSpec.j0, testamurref03_Few.f]; rfl) ?_
  split
  · refine Ev.step (fun k => by rw [testamurlaw03_SpansSpec.j1, normal_f]) ?_
    refine Ev.bind (f := fun k t => if (if l.any badSpan = true then (30 : Int) else 0) = t then (some (nrm (inl l))).bind fun t270 => ((testamurref03_Normal.f k l).bind fun t273 => ((testamurref03_Same.f k t270 t273).bind fun t276 => (some t276))) else none) (rcheck_ev l hl') ?_
    simp only [if_true, Option.bind_some]
    refine Ev.bind (f := fun k t => (testamurref03_Same.f k (nrm (inl l)) t).bind fun t276 => (some t276)) (rnormal_ev l hl') ?_
    exact Ev.bind (f := fun k t => some t) (same_nrm fun _ _ => rfl) (Ev.now _)
  · exact Ev.now _

end Go.Proofs.Ytcemfklhbgnflaa.P
