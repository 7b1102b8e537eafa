/- The plain law of SpansCovers: what its printed function answers. -/
import Derived.Test.YtcemfklhbgnflaaP10
import Derived.Test.YtcemfklhbgnflaaM3
namespace Go.Proofs.Ytcemfklhbgnflaa.P
open Go.RowKit Go.Proofs.YtcemfklhbgnflaaW.PrintWords Go.Proofs.YtcemfklhbgnflaaW.PrintLast Go.Proofs.YtcemfklhbgnflaaO
set_option linter.unusedVariables false

/-- The pure statement of the law. -/
def testamurlaw03_SpansCovers.Pure : Prop := ∀ (l0 : List (S31)) (a1 : Int) (a2 : Int) (a3 : Int), l0.length ≤ maxLen → l0.length * 16 ≤ 140737488351232 → (∀ x ∈ l0, G31 x) → (Lit.int .u16 a1).wf = true → (Lit.int .u16 a2).wf = true → (Lit.int .u16 a3).wf = true → ∃ k, testamurlaw03_SpansCovers.f k l0 a1 a2 a3 = some true

theorem u16_range {a : Int} (h : (Lit.int .u16 a).wf = true) : 0 ≤ a ∧ a ≤ 65535 := by
  have h1 : (decide ((0 : Int) ≤ a) && decide (a ≤ 65535)) = true := h
  simpa using h1
theorem minus_cov (l : List S31) (a b : Int) (hab : a < b) (h0 : 0 ≤ a) (hb : b ≤ 1024) : (((nrm fun m => inl [(⟨a, b⟩ : S31)] m && !inl l m).length : Int) == 0) = cov l a b := by
  have h := covers_f l a b
  rw [spans_Covers.f, if_neg (by omega), if_pos h0, if_pos hb, minus_f] at h
  simpa using h
theorem cov_cut (l : List S31) (a m b : Int) (h0 : 0 ≤ a) (h1 : a ≤ m) (h2 : m ≤ b) (h3 : b ≤ 1024) : cov l a b = (cov l a m && cov l m b) := by
  rw [Bool.eq_iff_iff, Bool.and_eq_true, cov_iff, cov_iff, cov_iff]
  constructor
  · rintro (h | ⟨_, _, h⟩)
    · exact ⟨.inl (by omega), .inl (by omega)⟩
    · refine ⟨.inr ⟨h0, by omega, fun x h4 h5 => h x h4 (by omega)⟩, .inr ⟨by omega, h3, fun x h4 h5 => h x (by omega) h5⟩⟩
  · rintro ⟨h4, h5⟩
    refine .inr ⟨h0, h3, fun x h6 h7 => ?_⟩
    by_cases hx : (x : Int) < m
    · rcases h4 with h4 | ⟨_, _, h4⟩
      · omega
      · exact h4 x h6 hx
    · rcases h5 with h5 | ⟨_, _, h5⟩
      · omega
      · exact h5 x (by omega) h7
theorem pureSpansCovers : testamurlaw03_SpansCovers.Pure := by
  intro l a1 a2 a3 _ hl _ w1 w2 w3
  have hl' : l.length ≤ 9223372036854775806 := by omega
  have r1 := u16_range w1
  have r2 := u16_range w2
  have r3 := u16_range w3
  refine Ev.rounds (Ev.bind (f := fun k t => if t = true then testamurlaw03_SpansCovers.j0 k l a1 a2 a3 else none) sane_ev ?_)
  simp only [if_true]
  refine Ev.step (f := fun k => if decide ((l.length : Int) ≤ 40) = true then testamurlaw03_SpansCovers.j1 k l a1 a2 a3 else some true) (fun k => by rw [testamurlaw03_SpansCovers.j0, testamurref03_Few.f]; rfl) ?_
  split
  · have a0 : 0 ≤ Int.tmod (wrap64 a1) 1025 := by rw [wrap_id (by omega) (by omega)]; exact Int.tmod_nonneg _ r1.1
    have a4 : Int.tmod (wrap64 a1) 1025 < 1025 := Int.tmod_lt_of_pos _ (by omega)
    have b0 : 0 ≤ Int.tmod (wrap64 a2) 1025 := by rw [wrap_id (by omega) (by omega)]; exact Int.tmod_nonneg _ r2.1
    have b4 : Int.tmod (wrap64 a2) 1025 < 1025 := Int.tmod_lt_of_pos _ (by omega)
    refine Ev.step (fun k => by rw [testamurlaw03_SpansCovers.j1, covers_f]) ?_
    generalize Int.tmod (wrap64 a1) 1025 = a at *
    generalize Int.tmod (wrap64 a2) 1025 = b at *
    simp only [Option.bind_some]
    by_cases c0 : a ≥ b
    · simp only [if_pos c0]
      rw [show cov l a b = true by simp [cov, c0]]
      exact Ev.now _
    · simp only [if_neg c0]
      have hq : wrap64 (wrap64 (b - a) + 1) = b - a + 1 := by rw [wrap_id (x := b - a) (by omega) (by omega), wrap_id (by omega) (by omega)]
      have hm0 : 0 ≤ Int.tmod (wrap64 a3) (b - a + 1) := by rw [wrap_id (by omega) (by omega)]; exact Int.tmod_nonneg _ r3.1
      have hm1 : Int.tmod (wrap64 a3) (b - a + 1) < b - a + 1 := Int.tmod_lt_of_pos _ (by omega)
      refine Ev.step (fun k => by rw [testamurlaw03_SpansCovers.j2, hq, if_neg (by omega), minus_f, covers_f, covers_f, covers_f]) ?_
      generalize Int.tmod (wrap64 a3) (b - a + 1) = q at *
      rw [wrap_id (x := a + q) (by omega) (by omega)]
      have e1 : cov l a (wrap64 (1025 + wrap64 a3)) = false := by
        rw [wrap_id (x := a3) (by omega) (by omega), wrap_id (by omega) (by omega)]
        simp only [cov, Bool.or_eq_false_iff, Bool.and_eq_false_iff, decide_eq_false_iff_not]
        omega
      have e2 := cov_cut l a (a + q) b a0 (by omega) (by omega) (by omega)
      simp only [Option.bind_some, minus_cov l a b (by omega) a0 (by omega), e1, e2]
      cases cov l a (a + q) <;> cases cov l (a + q) b <;> exact Ev.now _
  · exact Ev.now _

end Go.Proofs.Ytcemfklhbgnflaa.P
