/- Plain laws of chapter 42: the reference's Valid and Before. -/
import Derived.Test.YtkclehmjkncmnaaMA
import Derived.Test.YtkclehmjkncmnaaP16
import Derived.Test.YtkclehmjkncmnaaP19
namespace Go.Proofs.Ytkclehmjkncmnaa.P
open Go.RowKit Go.Proofs.YtkclehmjkncmnaaW.PrintWords Go.Proofs.YtkclehmjkncmnaaW.PrintLast Go.Proofs.YtkclehmjkncmnaaW.PrintMore
set_option linter.unusedVariables false

theorem rin_ev (a b c : Int) : testamurref42_in.f a b c = some (inI a b c) := by
  unfold testamurref42_in.f inI
  by_cases h : a ≥ b
  · rw [if_pos h, decide_eq_true (show b ≤ a from h)]; rfl
  · rw [if_neg h, decide_eq_false (show ¬ b ≤ a from h)]; rfl
theorem risDev_ev (a : Int) : testamurref42_IsDevice.f a = some (isDev a) := by
  unfold testamurref42_IsDevice.f
  rw [rin_ev]; rfl
theorem rvalid_ev (o : S40) : testamurref42_Valid.f o.f0 o.f1 o.f2 o.f3 o.f4 o.f5 = some (opV o) := by
  unfold testamurref42_Valid.f
  simp only [risDev_ev, rin_ev, Option.bind_some, opV]
  by_cases h1 : o.f2 = 1
  · have h2 : ¬ o.f2 = 2 := by omega
    simp only [h1, if_true, decide_true, Bool.true_and]
    cases isDev o.f4 <;> cases isDev o.f0 <;> cases inI o.f1 1 65536 <;> cases inI o.f3 0 1023 <;> cases inI o.f5 1 65536 <;> simp
  · by_cases h2 : o.f2 = 2
    · by_cases h4 : o.f4 = 0 <;> simp [h2, h4] <;> cases isDev o.f0 <;> cases inI o.f1 1 65536 <;> cases inI o.f3 0 1023 <;> cases inI o.f5 1 65536 <;> simp
    · simp [h1, h2]
theorem rd_int (l : List Int) (i : Nat) (h : i < l.length) : rd l (i : Int) = l[i] := by simp [rd, List.getD_eq_getElem?_getD, List.getElem?_eq_getElem h]
theorem before_ev (a b : S40) : Ev (fun k => testamurref42_Before.f k a.f0 a.f1 a.f2 a.f3 a.f4 a.f5 b.f0 b.f1 b.f2 b.f3 b.f4 b.f5) (decide (cmpO a b < 0)) := by
  have : ∀ (xs ys : List Int), xs.length = ys.length → xs.length ≤ 1000 → ∀ m i, xs.length - i = m → i ≤ xs.length → Ev (fun k => testamurref42_Before.l0 k xs ys (i : Int)) (decide (cmpL (xs.drop i) (ys.drop i) < 0)) := by
    intro xs ys hl hx m
    induction m with
    | zero =>
      intro i h hi
      rw [List.drop_of_length_le (by omega), List.drop_of_length_le (by omega)]
      exact Ev.step (f := fun _ => some false) (fun k => by rw [testamurref42_Before.l0, if_neg (by omega)]) (Ev.now _)
    | succ m ih =>
      intro i h hi
      have h1 : i < xs.length := by omega
      rw [List.drop_eq_getElem_cons h1, List.drop_eq_getElem_cons (show i < ys.length by omega), ← rd_int xs i h1, ← rd_int ys i (by omega), cmpL]
      by_cases q : rd xs i = rd ys i
      · rw [if_neg (by omega), if_neg (by omega)]
        exact Ev.step (fun k => by rw [testamurref42_Before.l0, if_pos (by omega), if_pos (by omega), if_pos (by omega), if_pos q, wrap_succ i (by omega)]) (ih (i + 1) (by omega) (by omega))
      · refine Ev.step (fun k => by rw [testamurref42_Before.l0, if_pos (by omega), if_pos (by omega), if_pos (by omega), if_neg q]) ?_
        by_cases q2 : rd xs i < rd ys i
        · rw [if_pos q2, decide_eq_true q2]
          exact Ev.now _
        · rw [if_neg q2, if_pos (by omega), decide_eq_false q2]
          exact Ev.now _
  exact Ev.congr (fun k => by rw [testamurref42_Before.f]; rfl) (this (nums a) (nums b) rfl (by show 6 ≤ 1000; decide) 6 0 rfl (by omega))
end Go.Proofs.Ytkclehmjkncmnaa.P
