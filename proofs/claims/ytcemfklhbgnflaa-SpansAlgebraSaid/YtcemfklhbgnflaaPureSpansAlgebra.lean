/- The plain law of SpansAlgebra: what its printed function answers. -/
import Derived.Test.YtcemfklhbgnflaaP8
import Derived.Test.YtcemfklhbgnflaaM
namespace Go.Proofs.Ytcemfklhbgnflaa.P
open Go.RowKit Go.Proofs.YtcemfklhbgnflaaW.PrintWords Go.Proofs.YtcemfklhbgnflaaW.PrintLast Go.Proofs.YtcemfklhbgnflaaO
set_option linter.unusedVariables false

/-- The pure statement of the law. -/
def testamurlaw03_SpansAlgebra.Pure : Prop := ∀ (l0 : List (S31)) (l1 : List (S31)) (l2 : List (S31)), l0.length ≤ maxLen → l0.length * 16 ≤ 140737488351232 → (∀ x ∈ l0, G31 x) → l1.length ≤ maxLen → l1.length * 16 ≤ 140737488351232 → (∀ x ∈ l1, G31 x) → l2.length ≤ maxLen → l2.length * 16 ≤ 140737488351232 → (∀ x ∈ l2, G31 x) → ∃ k, testamurlaw03_SpansAlgebra.f k l0 l1 l2 = some true

theorem pureSpansAlgebra : testamurlaw03_SpansAlgebra.Pure := by
  intro a b c _ _ _ _ _ _ _ _ _
  obtain ⟨Ks, hs⟩ := sane_ev
  refine ⟨Ks + 2000, ?_⟩
  have hsame : ∀ f, testamurref03_Same.f (Ks + 1997) (nrm f) (nrm f) = some true := fun f => same_at f _ (by omega)
  simp only [testamurlaw03_SpansAlgebra.f, hs (Ks + 2000) (by omega), Option.bind_some, if_true, testamurlaw03_SpansAlgebra.j0, testamurref03_Few.f]
  have fin : ∀ x, testamurlaw03_SpansAlgebra.j1 (Ks + 1999) a b c x = some true := by
    intro x
    cases x
    · simp only [testamurlaw03_SpansAlgebra.j1, testamurlaw03_SpansAlgebra.j2, union_f, meet_f, minus_f, normal_f, Option.bind_some, Bool.false_eq_true, if_false]
      have e1 : (nrm fun m => inl b m || inl a m) = nrm fun m => inl a m || inl b m := nrm_congr fun m _ => Bool.or_comm _ _
      have e2 : (nrm fun m => inl b m && inl a m) = nrm fun m => inl a m && inl b m := nrm_congr fun m _ => Bool.and_comm _ _
      have e3 : (nrm fun m => inl (nrm fun m => inl a m || inl b m) m || inl c m) = nrm fun m => inl a m || inl (nrm fun m => inl b m || inl c m) m := nrm_congr fun m hm => by
        rw [nrm_in _ m hm, nrm_in _ m hm, Bool.or_assoc]
      have e4 : (nrm fun m => inl (nrm fun m => inl a m && inl b m) m && inl c m) = nrm fun m => inl a m && inl (nrm fun m => inl b m && inl c m) m := nrm_congr fun m hm => by
        rw [nrm_in _ m hm, nrm_in _ m hm, Bool.and_assoc]
      have e5 : (nrm fun m => inl a m && inl (nrm fun m => inl b m || inl c m) m) = nrm fun m => inl (nrm fun m => inl a m && inl b m) m || inl (nrm fun m => inl a m && inl c m) m := nrm_congr fun m hm => by
        rw [nrm_in _ m hm, nrm_in _ m hm, nrm_in _ m hm, Bool.and_or_distrib_left]
      have e6 : (nrm fun m => inl a m || inl a m) = nrm (inl a) := nrm_congr fun m _ => Bool.or_self _
      have e7 : (nrm fun m => inl a m && inl a m) = nrm (inl a) := nrm_congr fun m _ => Bool.and_self _
      have e8 : (nrm (inl (nrm (inl a)))) = nrm (inl a) := nrm_congr fun m hm => nrm_in _ m hm
      have e9 : (nrm fun m => inl a m && !inl (nrm fun m => inl b m || inl c m) m) = nrm fun m => inl (nrm fun m => inl a m && !inl b m) m && !inl c m := nrm_congr fun m hm => by
        rw [nrm_in _ m hm, nrm_in _ m hm]
        cases inl a m <;> cases inl b m <;> cases inl c m <;> rfl
      have e10 : (nrm fun m => inl a m && !inl a m) = [] := nrm_nil fun m _ => by cases inl a m <;> rfl
      rw [e1, hsame]
      simp only [Option.bind_some, if_true]
      rw [e2, hsame]
      simp only [Option.bind_some, if_true]
      rw [e3, hsame]
      simp only [Option.bind_some, if_true]
      rw [e4, hsame]
      simp only [Option.bind_some, if_true]
      rw [e5, hsame]
      simp only [Option.bind_some, if_true]
      rw [e6, hsame]
      simp only [Option.bind_some, if_true]
      rw [e7, hsame]
      simp only [Option.bind_some, if_true]
      rw [e8, hsame]
      simp only [Option.bind_some, if_true]
      rw [e9, hsame]
      simp only [Option.bind_some, if_true]
      rw [e10]
      rfl
    · simp only [testamurlaw03_SpansAlgebra.j1, if_true]
  split
  · split
    · exact fin _
    · exact fin _
  · exact fin _

end Go.Proofs.Ytcemfklhbgnflaa.P
