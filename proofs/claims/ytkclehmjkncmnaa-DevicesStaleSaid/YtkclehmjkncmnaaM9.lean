/- Plain laws of chapter 42: the reference's Has. -/
import Derived.Test.YtkclehmjkncmnaaMA
import Derived.Test.YtkclehmjkncmnaaP13
namespace Go.Proofs.Ytkclehmjkncmnaa.P
open Go.RowKit Go.Proofs.YtkclehmjkncmnaaW.PrintWords Go.Proofs.YtkclehmjkncmnaaW.PrintLast Go.Proofs.YtkclehmjkncmnaaW.PrintMore
set_option linter.unusedVariables false

theorem rhas_ev (l : List S40) (o : S40) (hm : l.length ≤ 9223372036854775807) : Ev (fun k => testamurref42_Has.f k l o.f0 o.f1 o.f2 o.f3 o.f4 o.f5) (decide (o ∈ l)) := by
  have hq : ∀ x : S40, ((x.f0) == o.f0 && ((x.f1) == o.f1 && ((x.f2) == o.f2 && ((x.f3) == o.f3 && ((x.f4) == o.f4 && ((x.f5) == o.f5)))))) = true ↔ o = x := by
    intro x
    simp only [Bool.and_eq_true, beq_iff_eq]
    constructor
    · rintro ⟨h0, h1, h2, h3, h4, h5⟩
      cases x; cases o
      simp_all
    · rintro rfl
      simp
  have : ∀ m i, l.length - i = m → i ≤ l.length → Ev (fun k => testamurref42_Has.l0 k l (i : Int) o.f0 o.f1 o.f2 o.f3 o.f4 o.f5) (decide (o ∈ l.drop i)) := by
    intro m
    induction m with
    | zero =>
      intro i h hi
      rw [List.drop_of_length_le (by omega)]
      rw [show decide (o ∈ ([] : List S40)) = false by simp]
      exact Ev.step (f := fun _ => some false) (fun k => by rw [testamurref42_Has.l0, if_neg (by omega)]) (Ev.now _)
    | succ m ih =>
      intro i h hi
      have hlt : i < l.length := by omega
      rw [List.drop_eq_getElem_cons hlt, ← rd_at40 l i hlt]
      by_cases q : o = rd_T40 l i
      · rw [decide_eq_true (by rw [q]; simp)]
        exact Ev.step (fun k => by rw [testamurref42_Has.l0, if_pos (by omega), if_pos (by omega), if_pos ((hq _).2 q)]) (Ev.now _)
      · rw [show decide (o ∈ rd_T40 l i :: l.drop (i + 1)) = decide (o ∈ l.drop (i + 1)) by simp [q]]
        exact Ev.step (fun k => by rw [testamurref42_Has.l0, if_pos (by omega), if_pos (by omega), if_neg (fun h => q ((hq _).1 h)), wrap_succ i (by omega)]) (ih (i + 1) (by omega) (by omega))
  have h := this _ 0 rfl (by omega)
  rwa [List.drop_zero] at h
end Go.Proofs.Ytkclehmjkncmnaa.P
