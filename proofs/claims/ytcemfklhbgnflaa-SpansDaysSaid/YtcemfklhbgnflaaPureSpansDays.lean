/- The plain law of SpansDays: what its printed function answers. -/
import Derived.Test.YtcemfklhbgnflaaG5
import Derived.Test.YtcemfklhbgnflaaT
namespace Go.Proofs.Ytcemfklhbgnflaa.P
open Go.RowKit Go.Proofs.YtcemfklhbgnflaaW.PrintWords Go.Proofs.YtcemfklhbgnflaaW.PrintLast Go.Proofs.YtcemfklhbgnflaaO
set_option linter.unusedVariables false

/-- The pure statement of the law. -/
def testamurlaw03_SpansDays.Pure : Prop := ∀ (l0 : List (S31)) (l1 : List (S31)) (a2 : Int), l0.length ≤ maxLen → l0.length * 16 ≤ 140737488351232 → (∀ x ∈ l0, G31 x) → l1.length ≤ maxLen → l1.length * 16 ≤ 140737488351232 → (∀ x ∈ l1, G31 x) → (Lit.int .i64 a2).wf = true → ∃ k, testamurlaw03_SpansDays.f k l0 l1 a2 = some true

theorem pureSpansDays : testamurlaw03_SpansDays.Pure := fun _ _ _ _ _ _ _ _ _ _ => ⟨0, rfl⟩

end Go.Proofs.Ytcemfklhbgnflaa.P
