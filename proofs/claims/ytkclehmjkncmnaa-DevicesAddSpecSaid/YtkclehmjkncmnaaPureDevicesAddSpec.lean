/- The plain law of DevicesAddSpec: what its printed function answers. -/
import Derived.Test.YtkclehmjkncmnaaP22
import Derived.Test.YtkclehmjkncmnaaT
import Derived.Test.YtkclehmjkncmnaaM4
import Derived.Test.YtkclehmjkncmnaaM3
namespace Go.Proofs.Ytkclehmjkncmnaa.P
open Go.RowKit Go.Proofs.YtkclehmjkncmnaaW.PrintWords Go.Proofs.YtkclehmjkncmnaaW.PrintLast Go.Proofs.YtkclehmjkncmnaaO
set_option linter.unusedVariables false

/-- The pure statement of the law. -/
def testamurlaw42_DevicesAddSpec.Pure : Prop := ∀ (l0 : List (S40)) (x1 : S40), l0.length ≤ maxLen → l0.length * 48 ≤ 140737488351232 → (l0.length ≤ maxLen ∧ ∀ y ∈ l0, G40 y) → G40 x1 → ∃ k, testamurlaw42_DevicesAddSpec.f k l0 x1.f0 x1.f1 x1.f2 x1.f3 x1.f4 x1.f5 = some true

theorem pureDevicesAddSpec : testamurlaw42_DevicesAddSpec.Pure := by
  intro l o hl _ _ _
  have hl' := len_of hl
  refine Ev.rounds ?_
  refine Ev.congr (fun k => by rw [testamurlaw42_DevicesAddSpec.f]) ?_
  refine Ev.bind sane_ev ?_
  simp only [if_true]
  refine Ev.step (fun k => by rw [testamurlaw42_DevicesAddSpec.j0, few_ev, Option.bind_some]) ?_
  by_cases hf : (l.length : Int) ≤ 40
  · simp only [decide_eq_true hf, if_true]
    refine Ev.step (fun k => by rw [testamurlaw42_DevicesAddSpec.j1, dadd_ev, Option.bind_some]) ?_
    refine Ev.bind (radd_ev l o hl') ?_
    refine Ev.bind (same_ev _ (by have := merge_len l [o]; omega)) ?_
    simp only [if_true, devices_Check.f, testamurref42_Check.f, Option.bind_some, beq_self_eq_true]
    exact Ev.now _
  · simp only [decide_eq_false hf, Bool.false_eq_true, if_false]
    exact Ev.now _

end Go.Proofs.Ytkclehmjkncmnaa.P
