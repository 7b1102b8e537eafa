/- The plain law of DependsSpec: what its printed function answers. -/
import Derived.Test.YtfbcjeknibfjcaaT
import Derived.Test.YtfbcjeknibfjcaaP14
import Derived.Test.YtfbcjeknibfjcaaM5
import Derived.Test.YtfbcjeknibfjcaaM9
namespace Go.Proofs.Ytfbcjeknibfjcaa.P
open Go.RowKit Go.Proofs.YtfbcjeknibfjcaaW.PrintWords Go.Proofs.YtfbcjeknibfjcaaW.PrintLast Go.Proofs.YtfbcjeknibfjcaaO
set_option linter.unusedVariables false

/-- The pure statement of the law. -/
def testamurlaw13_DependsSpec.Pure : Prop := ∀ (x0 : S25) (l1 : List Int) (x2 : S29), G25 x0 → l1.length ≤ maxLen → l1.length * 8 ≤ 140737488351232 → (l1.length ≤ maxLen ∧ ∀ y ∈ l1, (Lit.int .i64 y).wf = true) → G29 x2 → ∃ k, testamurlaw13_DependsSpec.f k x0.f0 x0.f1 x0.f2 x0.f3 x0.f4 x0.f5 l1 x2.f0 x2.f1 x2.f2 x2.f3 = some true

theorem pureDependsSpec : testamurlaw13_DependsSpec.Pure := by
 intro x l d hx hl _ _ hd
 have hb := bd_of hx
 have hl' : l.length ≤ 9223372036854775807 := by simpa [maxLen] using hl
 have hd' : d.f2.length ≤ 9223372036854775807 := by have := hd.2.2.1.1; simpa [maxLen] using this
 refine Ev.rounds ?_
 refine Ev.congr (f := fun k => testamurlaw13_DependsSpec.j0 k l x.f0 x.f1 x.f2 x.f3 x.f4 x.f5 d.f0 d.f1 d.f2 d.f3) (fun k => by rw [testamurlaw13_DependsSpec.f, testamurlaw13_sane.f]; rfl) ?_
 obtain ⟨r, hr⟩ := few_ev x.f0 x.f1 x.f2 x.f3 x.f4 x.f5 hb.1
 have h1 : ∀ b, Ev (fun k => testamurlaw13_DependsSpec.j1 k l b x.f0 x.f1 x.f2 x.f3 x.f4 x.f5 d.f0 d.f1 d.f2 d.f3) true := by
  intro b
  cases b with
  | true => exact Ev.step (fun k => by rw [testamurlaw13_DependsSpec.j1, if_pos rfl]) (Ev.now _)
  | false =>
   refine Ev.step (fun k => by rw [testamurlaw13_DependsSpec.j1, if_neg (by simp)]) ?_
   refine Ev.step (fun k => by rw [testamurlaw13_DependsSpec.j2]) ?_
   refine Ev.bind (closure_ev _ _ _ _ _ hb hl') ?_
   refine Ev.bind (rclosure_ev _ _ _ _ _ hb hl') ?_
   refine Ev.bind (implied_ev _ _ _ _ _ hb _ _ hd' _) ?_
   refine Ev.bind (rimplied_ev _ _ _ _ _ hb _ _ hd' _) ?_
   rw [depends_Check.f]
   simp only [Option.bind_some]
   refine Ev.bind (rcheck_ev _ _ _ _ _ _ hb) ?_
   simp only [if_true]
   refine Ev.bind (same_ev _ (by have := closV_len (n := x.f4.length) (ds := x.f5) (l := l); omega)) ?_
   simp only [if_true, beq_self_eq_true]
   exact Ev.now _
 refine Ev.step (fun k => by rw [testamurlaw13_DependsSpec.j0]) ?_
 refine Ev.bind hr ?_
 cases r with
 | true =>
  simp only [if_true]
  split
  ·exact h1 _
  ·exact h1 _
 | false =>
  simp only [Bool.false_eq_true, if_false]
  exact h1 _

end Go.Proofs.Ytfbcjeknibfjcaa.P
