/- The plain law of SpansDivide: what its printed function answers. -/
import Derived.Test.YtcemfklhbgnflaaP9
import Derived.Test.YtcemfklhbgnflaaM
namespace Go.Proofs.Ytcemfklhbgnflaa.P
open Go.RowKit Go.Proofs.YtcemfklhbgnflaaW.PrintWords Go.Proofs.YtcemfklhbgnflaaW.PrintLast Go.Proofs.YtcemfklhbgnflaaO
set_option linter.unusedVariables false

/-- The pure statement of the law. -/
def testamurlaw03_SpansDivide.Pure : Prop := ∀ (l0 : List (S31)) (l1 : List (S31)), l0.length ≤ maxLen → l0.length * 16 ≤ 140737488351232 → (∀ x ∈ l0, G31 x) → l1.length ≤ maxLen → l1.length * 16 ≤ 140737488351232 → (∀ x ∈ l1, G31 x) → ∃ k, testamurlaw03_SpansDivide.f k l0 l1 = some true

theorem pureSpansDivide : testamurlaw03_SpansDivide.Pure := by
  intro a b _ _ _ _ _ _
  obtain ⟨Ks, hs⟩ := sane_ev
  refine ⟨Ks + 2000, ?_⟩
  have hsame : ∀ f, testamurref03_Same.f (Ks + 1997) (nrm f) (nrm f) = some true := fun f => same_at f _ (by omega)
  simp only [testamurlaw03_SpansDivide.f, hs (Ks + 2000) (by omega), Option.bind_some, if_true, testamurlaw03_SpansDivide.j0, testamurref03_Few.f]
  have fin : ∀ x, testamurlaw03_SpansDivide.j1 (Ks + 1999) a b x = some true := by
    intro x
    cases x
    · simp only [testamurlaw03_SpansDivide.j1, testamurlaw03_SpansDivide.j2, union_f, meet_f, minus_f, normal_f, Option.bind_some, Bool.false_eq_true, if_false]
      have e1 : (nrm fun m => inl (nrm fun m => inl a m && !inl b m) m && inl (nrm fun m => inl a m && inl b m) m) = [] := nrm_nil fun m hm => by
        rw [nrm_in _ m hm, nrm_in _ m hm]
        cases inl a m <;> cases inl b m <;> rfl
      have e2 : (nrm fun m => inl (nrm fun m => inl a m && !inl b m) m && inl b m) = [] := nrm_nil fun m hm => by
        rw [nrm_in _ m hm]
        cases inl a m <;> cases inl b m <;> rfl
      have e3 : (nrm fun m => inl (nrm fun m => inl a m && !inl b m) m || inl (nrm fun m => inl a m && inl b m) m) = nrm (inl a) := nrm_congr fun m hm => by
        rw [nrm_in _ m hm, nrm_in _ m hm]
        cases inl a m <;> cases inl b m <;> rfl
      have e4 : (nrm fun m => inl (nrm fun m => inl a m && !inl b m) m || inl b m) = nrm fun m => inl a m || inl b m := nrm_congr fun m hm => by
        rw [nrm_in _ m hm]
        cases inl a m <;> cases inl b m <;> rfl
      rw [e1, if_pos (by rfl), e2, if_pos (by rfl), e3, hsame]
      simp only [Option.bind_some, if_true]
      rw [e4, hsame]
      rfl
    · simp only [testamurlaw03_SpansDivide.j1, if_true]
  split
  · exact fin _
  · exact fin _

end Go.Proofs.Ytcemfklhbgnflaa.P
