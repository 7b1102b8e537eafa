/- Plain laws of chapter 42: the reference's Add answers as the program's. -/
import Derived.Test.YtkclehmjkncmnaaM2
import Derived.Test.YtkclehmjkncmnaaG12
import Derived.Test.YtkclehmjkncmnaaGD
import Derived.Test.YtkclehmjkncmnaaP21
import Derived.Test.YtkclehmjkncmnaaPB
import Derived.Test.YtkclehmjkncmnaaM9
namespace Go.Proofs.Ytkclehmjkncmnaa.P
open Go.RowKit Go.Proofs.YtkclehmjkncmnaaW.PrintWords Go.Proofs.YtkclehmjkncmnaaW.PrintLast Go.Proofs.YtkclehmjkncmnaaW.PrintMore
set_option linter.unusedVariables false

theorem radd_ev (l : List S40) (o : S40) (hm : l.length ≤ 9223372036854775807) : Ev (fun k => testamurref42_Add.f k l o.f0 o.f1 o.f2 o.f3 o.f4 o.f5) (mergeV l [o]) := by
 have hT : ¬ (Vl l ∧ opV o = true) → Ev (fun k => testamurref42_Add.j0 k l true o.f0 o.f1 o.f2 o.f3 o.f4 o.f5) (mergeV l [o]) := fun h => by
  have := merges l [o]
  cases hz : mergeV l [o] with
  | mk x e =>
   rw [hz] at this
   cases this with
   | bad => exact Ev.step (fun k => by rw [testamurref42_Add.j0, if_pos rfl]) (Ev.now _)
   | many h1 h2 => exact absurd ⟨h1, vl_one.1 h2⟩ h
   | ok h1 h2 => exact absurd ⟨h1, vl_one.1 h2⟩ h
 refine Ev.congr (fun k => by rw [testamurref42_Add.f, testamurref42_Check.f, Option.bind_some]) ?_
 cases hc : chkD l with
 | false =>
  rw [if_neg (by simp)]
  simp only [show ¬ (420 : Int) = 0 by decide, if_false]
  exact hT (fun h => by rw [← chkD_iff, hc] at h; simp at h)
 | true =>
  have vl := chkD_iff.1 hc
  rw [if_pos rfl]
  simp only [if_true, rvalid_ev, Option.bind_some]
  cases ho : opV o with
  | false => exact hT (fun h => by rw [ho] at h; simp at h)
  | true =>
   have v1 := vl_one.2 ho
   refine Ev.step (fun k => by rw [Bool.not_true, testamurref42_Add.j0, if_neg (by simp)]) ?_
   refine Ev.bind (rhas_ev l o hm) ?_
   by_cases hin : o ∈ l
   ·simp only [decide_eq_true hin, if_true]
    have hs : merged l [o] = l := merged_sub vl.srt v1.srt (by simpa using hin)
    rw [mergeV_ok vl v1 (fun x hx y hy hk => vl.ku x hx y (by rw [List.mem_singleton] at hy; rw [hy]; exact hin) hk) (by rw [hs]; exact vl.len), hs]
    exact Ev.now _
   ·simp only [decide_eq_false hin, Bool.false_eq_true, if_false]
    refine Ev.bind (rclash_ev l o hm) ?_
    have hz := len_ins vl.srt hin
    cases hcl : l.any (sameKey o) with
    | true =>
     simp only [if_true]
     obtain ⟨y, hy, hk⟩ := clash_iff.1 hcl
     have : mergeV l [o] = ([], 420) := by
      have := merges l [o]
      cases hz : mergeV l [o] with
      | mk x e =>
       rw [hz] at this
       have hno : ¬ Agree l [o] := fun h => hin (by have := h y hy o (by simp) (by rw [key_comm]; exact hk); rw [← this]; exact hy)
       cases this with
       | bad => rfl
       | many _ _ h => exact absurd h hno
       | ok _ _ h => exact absurd h hno
     rw [this]
     exact Ev.now _
    | false =>
     simp only [Bool.false_eq_true, if_false]
     have hag : Agree l [o] := fun x hx y hy hk => by
      rw [List.mem_singleton] at hy
      subst hy
      rw [key_comm] at hk
      have : l.any (sameKey y) = true := clash_iff.2 ⟨x, hx, hk⟩
      rw [hcl] at this
      cases this
     have := merges l [o]
     by_cases h256 : (l.length : Int) = 256
     ·simp only [h256, if_true]
      cases hz2 : mergeV l [o] with
      | mk x e =>
       rw [hz2] at this
       cases this with
       | bad h => exact absurd ⟨vl, v1, hag⟩ h
       | many => exact Ev.now _
       | ok _ _ _ h => have := h.len; omega
     ·simp only [h256, if_false]
      have hlen := vl.len
      rw [mergeV_ok vl v1 hag (by omega)]
      exact Ev.bind (rinsert_ev l o vl.srt hin (by omega)) (Ev.now _)
theorem dadd_ev (l : List S40) (o : S40) : devices_Add.f l o.f0 o.f1 o.f2 o.f3 o.f4 o.f5 = some (mergeV l [o]) := by
 unfold devices_Add.f devices_Check.f
 rw [Option.bind_some]
 by_cases h : chkD l = true
 ·rw [if_pos h, if_pos rfl]
  rfl
 ·rw [if_neg h, if_neg (by decide)]
  rw [mergeV, if_neg h]
end Go.Proofs.Ytkclehmjkncmnaa.P
