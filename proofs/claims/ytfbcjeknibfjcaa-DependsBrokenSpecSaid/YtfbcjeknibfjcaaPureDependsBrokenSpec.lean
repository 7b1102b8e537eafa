/- The plain law of DependsBrokenSpec: what its printed function answers. -/
import Derived.Test.YtfbcjeknibfjcaaP9
import Derived.Test.YtfbcjeknibfjcaaT
import Derived.Test.YtfbcjeknibfjcaaM2
namespace Go.Proofs.Ytfbcjeknibfjcaa.P
open Go.RowKit Go.Proofs.YtfbcjeknibfjcaaW.PrintWords Go.Proofs.YtfbcjeknibfjcaaW.PrintLast Go.Proofs.YtfbcjeknibfjcaaO
set_option linter.unusedVariables false

/-- The pure statement of the law. -/
def testamurlaw13_DependsBrokenSpec.Pure : Prop := ∀ (x0 : S25) (l1 : List (S49)), G25 x0 → l1.length ≤ maxLen → l1.length * 48 ≤ 140737488351232 → (l1.length ≤ maxLen ∧ ∀ y ∈ l1, G49 y) → ∃ k, testamurlaw13_DependsBrokenSpec.f k x0.f0 x0.f1 x0.f2 x0.f3 x0.f4 x0.f5 l1 = some true

theorem pureDependsBrokenSpec : testamurlaw13_DependsBrokenSpec.Pure := by
  intro x l hx hl _ _
  have hb : Bd x.f5 := ⟨by have := hx.2.2.2.2.2.1; simpa [maxLen] using this, fun d hd => by have := (hx.2.2.2.2.2.2 d hd).2.2.1.1; simpa [maxLen] using this⟩
  have hl' : l.length ≤ 9223372036854775807 := by simpa [maxLen] using hl
  refine Ev.rounds ?_
  refine Ev.congr (f := fun k => testamurlaw13_DependsBrokenSpec.j0 k l x.f0 x.f1 x.f2 x.f3 x.f4 x.f5) (fun k => by rw [testamurlaw13_DependsBrokenSpec.f, testamurlaw13_sane.f]; rfl) ?_
  obtain ⟨r, hr⟩ := few_ev x.f0 x.f1 x.f2 x.f3 x.f4 x.f5 hb.1
  obtain ⟨q, hq⟩ := fewI_ev l hl'
  have h1 : ∀ b, Ev (fun k => testamurlaw13_DependsBrokenSpec.j1 k l b x.f0 x.f1 x.f2 x.f3 x.f4 x.f5) true := by
    intro b
    cases b with
    | true => exact Ev.step (fun k => by rw [testamurlaw13_DependsBrokenSpec.j1, if_pos rfl]) (Ev.now _)
    | false =>
      refine Ev.step (f := fun k => (testamurref13_Broken.f k x.f0 x.f1 x.f2 x.f3 x.f4 x.f5 l).bind fun bt229 => if (brokenV x.f4.length x.f5 l).1 = bt229.1 then (if (brokenV x.f4.length x.f5 l).2.1 = bt229.2.1 then (if (brokenV x.f4.length x.f5 l).2.2.1 = bt229.2.2.1 then (if ((brokenV x.f4.length x.f5 l).2.2.2.1 == bt229.2.2.2.1) = true then (some ((brokenV x.f4.length x.f5 l).2.2.2.2 == bt229.2.2.2.2)) else (some false)) else (some false)) else (some false)) else (some false)) (fun k => by rw [testamurlaw13_DependsBrokenSpec.j1, if_neg (by simp)]; rfl) ?_
      refine Ev.bind (rbroken_ev _ _ _ _ _ _ l hb hl') ?_
      simp only [if_true, beq_self_eq_true]
      exact Ev.now _
  refine Ev.step (f := fun k => (testamurref13_Few.f k x.f0 x.f1 x.f2 x.f3 x.f4 x.f5).bind fun t222 => if t222 = true then ((testamurref13_FewInstances.f k l).bind fun t223 => testamurlaw13_DependsBrokenSpec.j1 k l (!t223) x.f0 x.f1 x.f2 x.f3 x.f4 x.f5) else testamurlaw13_DependsBrokenSpec.j1 k l true x.f0 x.f1 x.f2 x.f3 x.f4 x.f5) (fun k => by rw [testamurlaw13_DependsBrokenSpec.j0]) ?_
  refine Ev.bind hr ?_
  cases r with
  | true =>
    simp only [if_true]
    exact Ev.bind hq (h1 _)
  | false =>
    simp only [Bool.false_eq_true, if_false]
    exact h1 _

end Go.Proofs.Ytfbcjeknibfjcaa.P
