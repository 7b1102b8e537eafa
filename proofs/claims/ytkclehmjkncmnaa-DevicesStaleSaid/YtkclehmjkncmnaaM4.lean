/- Plain laws of chapter 42: the chapter's examples. -/
import Derived.Test.YtkclehmjkncmnaaMA
import Derived.Test.YtkclehmjkncmnaaP11
import Derived.Test.YtkclehmjkncmnaaPA
namespace Go.Proofs.Ytkclehmjkncmnaa.P
open Go.RowKit Go.Proofs.YtkclehmjkncmnaaW.PrintWords Go.Proofs.YtkclehmjkncmnaaW.PrintLast Go.Proofs.YtkclehmjkncmnaaW.PrintMore
set_option linter.unusedVariables false

theorem sane_ev : Ev testamurlaw42_sane.f true := Ev.of (testamurlaw42_sane.mono) (k := 40) (by decide +kernel)
theorem few_ev (l : List S40) : testamurref42_Few.f l = some (decide ((l.length : Int) ≤ 40)) := rfl
theorem len_of {l : List S40} (h : l.length ≤ maxLen) : l.length ≤ 9223372036854775807 := by simpa [maxLen] using h
theorem merge_len (a b : List S40) : (mergeV a b).1.length ≤ 256 := by
  have := merges a b
  cases hz : mergeV a b with
  | mk x e =>
    rw [hz] at this
    cases this with
    | bad => simp
    | many => simp
    | ok _ _ _ h => exact h.len
end Go.Proofs.Ytkclehmjkncmnaa.P
