/- The plain law of DevicesStateSpec: what its printed function answers. -/
import Derived.Test.YtkclehmjkncmnaaP29
import Derived.Test.YtkclehmjkncmnaaT
import Derived.Test.YtkclehmjkncmnaaM4
import Derived.Test.YtkclehmjkncmnaaM8
namespace Go.Proofs.Ytkclehmjkncmnaa.P
open Go.RowKit Go.Proofs.YtkclehmjkncmnaaW.PrintWords Go.Proofs.YtkclehmjkncmnaaW.PrintLast Go.Proofs.YtkclehmjkncmnaaO
set_option linter.unusedVariables false

/-- The pure statement of the law. -/
def testamurlaw42_DevicesStateSpec.Pure : Prop := ∀ (l0 : List (S40)) (a1 : Int) (a2 : Int) (a3 : Int) (a4 : Int), l0.length ≤ maxLen → l0.length * 48 ≤ 140737488351232 → (l0.length ≤ maxLen ∧ ∀ y ∈ l0, G40 y) → (Lit.int .i64 a1).wf = true → (Lit.int .i64 a2).wf = true → (Lit.int .i64 a3).wf = true → (Lit.int .i64 a4).wf = true → ∃ k, testamurlaw42_DevicesStateSpec.f k l0 a1 a2 a3 a4 = some true

theorem pureDevicesStateSpec : testamurlaw42_DevicesStateSpec.Pure := by
  intro l copies first device copy hl _ _ _ _ _ _
  have hl' := len_of hl
  refine Ev.rounds ?_
  refine Ev.congr (fun k => by rw [testamurlaw42_DevicesStateSpec.f]) ?_
  refine Ev.bind sane_ev ?_
  simp only [if_true]
  have h2 : Ev (fun k => testamurlaw42_DevicesStateSpec.j2 k l copies first device copy) true := by
    refine Ev.step (fun k => by rw [testamurlaw42_DevicesStateSpec.j2, devices_State.f, dmay_ev, Option.bind_some]) ?_
    refine Ev.bind (rstate_ev l copies first hl') ?_
    simp only [Option.bind_some]
    refine Ev.bind (rmay_ev l copies first device copy hl') ?_
    refine Ev.bind (sameS_ev _ ?_) ?_
    · have := states l copies first
      cases hz : stateV l copies first with
      | mk x e =>
        rw [hz] at this
        cases this with
        | bad => simp
        | arg => simp
        | ok _ _ _ _ => simp; omega
    · simp only [if_true, beq_self_eq_true]
      exact Ev.now _
  have h1 : ∀ b, Ev (fun k => testamurlaw42_DevicesStateSpec.j1 k l copies first device copy b) true := by
    intro b
    cases b with
    | true => exact Ev.step (fun k => by rw [testamurlaw42_DevicesStateSpec.j1, if_pos rfl]) (Ev.now _)
    | false => exact Ev.step (fun k => by rw [testamurlaw42_DevicesStateSpec.j1, if_neg (by simp)]) h2
  refine Ev.step (fun k => by rw [testamurlaw42_DevicesStateSpec.j0, few_ev, Option.bind_some]) ?_
  split
  · split
    · exact h1 _
    · exact h1 _
  · exact h1 _

end Go.Proofs.Ytkclehmjkncmnaa.P
