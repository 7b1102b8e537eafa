/- Plain laws of chapter 42: May answers out of State. -/
import Derived.Test.YtkclehmjkncmnaaMA
import Derived.Test.YtkclehmjkncmnaaPB
namespace Go.Proofs.Ytkclehmjkncmnaa.P
open Go.RowKit Go.Proofs.YtkclehmjkncmnaaW.PrintWords Go.Proofs.YtkclehmjkncmnaaW.PrintLast Go.Proofs.YtkclehmjkncmnaaW.PrintMore
set_option linter.unusedVariables false

theorem pin_ev (a b c : Int) : devices_in.f a b c = some (inI a b c) := by
  unfold devices_in.f inI
  by_cases h : a ≥ b
  · rw [if_pos h, decide_eq_true (show b ≤ a from h)]; rfl
  · rw [if_neg h, decide_eq_false (show ¬ b ≤ a from h)]; rfl
theorem pisDev_ev (a : Int) : devices_isDevice.f a = some (isDev a) := by
  unfold devices_isDevice.f
  rw [pin_ev]; rfl
theorem tok_step {h : S47} {o : S40} (h0 : 0 ≤ h.f2 ∧ h.f2 ≤ 65536) (ho : opV o = true) : 0 ≤ (stepH h o).f2 ∧ (stepH h o).f2 ≤ 65536 := by
  simp only [opV, inI, Bool.and_eq_true, decide_eq_true_eq] at ho
  unfold stepH
  split
  · split <;> (simp only; omega)
  · exact h0
def mayV (l : List S40) (copies first device copy : Int) : Bool × Int :=
  if (stateV l copies first).2 = 0 then (if isDev device = true then (if inI copy 0 (copies - 1) = true then (decide ((holdH l copy first).f1 = device) && !(holdH l copy first).f3, 0) else (false, 1)) else (false, 1)) else (false, (stateV l copies first).2)
theorem rd47_map {l : List S40} {n : Nat} {first : Int} (i : Nat) (h : i < n) : rd_T47 ((List.range n).map fun c : Nat => holdH l c first) (i : Int) = holdH l i first := by simp [rd_T47, h]
theorem stateV_zero {l : List S40} {copies first : Int} (h : (stateV l copies first).2 = 0) : Vl l ∧ 0 ≤ copies ∧ copies ≤ 1024 ∧ isDev first = true ∧ stateV l copies first = ((List.range copies.toNat).map fun c : Nat => holdH l c first, 0) := by
  have := states l copies first
  cases hz : stateV l copies first with
  | mk x e =>
    rw [hz] at this h
    cases this with
    | bad => cases h
    | arg => cases h
    | ok h1 h2 h3 h4 => exact ⟨h1, h2, h3, h4, rfl⟩
theorem may_at {l : List S40} {copies first device copy : Int} (h : (stateV l copies first).2 = 0) (hc : inI copy 0 (wrap64 (copies - 1)) = true) : inI copy 0 (copies - 1) = true ∧ 0 ≤ copy ∧ copy < ((stateV l copies first).1.length : Int) ∧ rd_T47 (stateV l copies first).1 copy = holdH l copy first := by
  obtain ⟨_, h2, h3, _, h5⟩ := stateV_zero h
  have hw : wrap64 (copies - 1) = copies - 1 := wrap_id (by omega) (by omega)
  rw [hw] at hc
  refine ⟨hc, ?_⟩
  simp only [inI, Bool.and_eq_true, decide_eq_true_eq] at hc
  obtain ⟨c, rfl⟩ := Int.eq_ofNat_of_zero_le hc.1
  rw [h5]
  refine ⟨by omega, by simp; omega, rd47_map c (by omega)⟩
theorem may_no {l : List S40} {copies first copy : Int} (h : (stateV l copies first).2 = 0) (hc : inI copy 0 (wrap64 (copies - 1)) = false) : inI copy 0 (copies - 1) = false := by
  obtain ⟨_, h2, h3, _, _⟩ := stateV_zero h
  rwa [wrap_id (by omega) (by omega)] at hc
theorem dmay_ev (l : List S40) (copies first device copy : Int) : devices_May.f l copies first device copy = some (mayV l copies first device copy) := by
  rw [devices_May.f, devices_State.f, mayV, Option.bind_some]
  by_cases h : (stateV l copies first).2 = 0
  · rw [if_pos h, if_pos h, pisDev_ev, Option.bind_some]
    by_cases hd : isDev device = true
    · rw [if_pos hd, if_pos hd, pin_ev, Option.bind_some]
      cases hc : inI copy 0 (wrap64 (copies - 1)) with
      | true =>
        obtain ⟨h1, h2, h3, h4⟩ := may_at (device := device) h hc
        rw [if_pos rfl, if_pos h2, if_pos h3, h4, if_pos h1]
        by_cases hq : (holdH l copy first).f1 = device <;> simp [hq]
      | false => rw [may_no h hc]; rfl
    · rw [if_neg hd, if_neg hd]
  · rw [if_neg h, if_neg h]
end Go.Proofs.Ytkclehmjkncmnaa.P
