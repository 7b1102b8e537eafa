/- The plain law of DevicesMergeSpec: what its printed function answers. -/
import Derived.Test.YtkclehmjkncmnaaP24
import Derived.Test.YtkclehmjkncmnaaT
import Derived.Test.YtkclehmjkncmnaaM4
import Derived.Test.YtkclehmjkncmnaaM7
namespace Go.Proofs.Ytkclehmjkncmnaa.P
open Go.RowKit Go.Proofs.YtkclehmjkncmnaaW.PrintWords Go.Proofs.YtkclehmjkncmnaaW.PrintLast Go.Proofs.YtkclehmjkncmnaaO
set_option linter.unusedVariables false

/-- The pure statement of the law. -/
def testamurlaw42_DevicesMergeSpec.Pure : Prop := ∀ (l0 : List (S40)) (l1 : List (S40)), l0.length ≤ maxLen → l0.length * 48 ≤ 140737488351232 → (l0.length ≤ maxLen ∧ ∀ y ∈ l0, G40 y) → l1.length ≤ maxLen → l1.length * 48 ≤ 140737488351232 → (l1.length ≤ maxLen ∧ ∀ y ∈ l1, G40 y) → ∃ k, testamurlaw42_DevicesMergeSpec.f k l0 l1 = some true

theorem pureDevicesMergeSpec : testamurlaw42_DevicesMergeSpec.Pure := by
  intro a b ha _ _ hb _ _
  refine Ev.rounds ?_
  refine Ev.congr (fun k => by rw [testamurlaw42_DevicesMergeSpec.f]) ?_
  refine Ev.bind sane_ev ?_
  simp only [if_true]
  have hT : Ev (fun k => testamurlaw42_DevicesMergeSpec.j1 k a b true) true := Ev.step (fun k => by rw [testamurlaw42_DevicesMergeSpec.j1, if_pos rfl]) (Ev.now _)
  refine Ev.step (fun k => by rw [testamurlaw42_DevicesMergeSpec.j0, few_ev, Option.bind_some]) ?_
  by_cases hf : (a.length : Int) ≤ 40
  · simp only [decide_eq_true hf, if_true, few_ev, Option.bind_some]
    by_cases hg : (b.length : Int) ≤ 40
    · simp only [decide_eq_true hg, Bool.not_true]
      refine Ev.step (fun k => by rw [testamurlaw42_DevicesMergeSpec.j1, if_neg (by simp), devices_Merge.f, Option.bind_some]) ?_
      refine Ev.bind (rmerge_ev a b (by omega) (by omega)) ?_
      refine Ev.bind (same_ev _ (by have := merge_len a b; omega)) ?_
      simp only [if_true, beq_self_eq_true]
      exact Ev.now _
    · simp only [decide_eq_false hg, Bool.not_false]
      exact hT
  · simp only [decide_eq_false hf, Bool.false_eq_true, if_false]
    exact hT

end Go.Proofs.Ytkclehmjkncmnaa.P
