/- Plain laws of chapter 42: the reference's Merge answers as the program's. -/
import Derived.Test.YtkclehmjkncmnaaM2
import Derived.Test.YtkclehmjkncmnaaG12
import Derived.Test.YtkclehmjkncmnaaGD
import Derived.Test.YtkclehmjkncmnaaP23
import Derived.Test.YtkclehmjkncmnaaM9
namespace Go.Proofs.Ytkclehmjkncmnaa.P
open Go.RowKit Go.Proofs.YtkclehmjkncmnaaW.PrintWords Go.Proofs.YtkclehmjkncmnaaW.PrintLast Go.Proofs.YtkclehmjkncmnaaW.PrintMore
set_option linter.unusedVariables false

theorem rmerge_ev (a b : List S40) (ha : a.length ≤ 1000) (hb : b.length ≤ 1000) : Ev (fun k => testamurref42_Merge.f k a b) (mergeV a b) := by
 have hT : ¬ (Vl a ∧ Vl b) → Ev (fun k => testamurref42_Merge.j0 k a b true) (mergeV a b) := fun h => by
  have := merges a b
  cases hz : mergeV a b with
  | mk x e =>
   rw [hz] at this
   cases this with
   | bad => exact Ev.step (fun k => by rw [testamurref42_Merge.j0, if_pos rfl]) (Ev.now _)
   | many h1 h2 => exact absurd ⟨h1, h2⟩ h
   | ok h1 h2 => exact absurd ⟨h1, h2⟩ h
 refine Ev.congr (fun k => by rw [testamurref42_Merge.f, testamurref42_Check.f, testamurref42_Check.f, Option.bind_some, Option.bind_some]) ?_
 cases hca : chkD a with
 | false =>
  rw [if_neg (by simp)]
  simp only [show ¬ (420 : Int) = 0 by decide, if_false]
  exact hT (fun h => by rw [← chkD_iff, hca] at h; simp at h)
 | true =>
  have va := chkD_iff.1 hca
  rw [if_pos rfl]
  simp only [if_true]
  cases hcb : chkD b with
  | false =>
   rw [if_neg (by simp)]
   exact hT (fun h => by rw [← chkD_iff (l := b), hcb] at h; simp at h)
  | true =>
   have vb := chkD_iff.1 hcb
   rw [if_pos rfl]
   refine Ev.step (fun k => by rw [testamurref42_Merge.j0, if_neg (by simp)]) ?_
   have hlast : ∀ i, b.take i <+: b := fun i => List.take_prefix i b
   have hsb : ∀ i, Srt (b.take i) := fun i => List.Pairwise.sublist (List.take_sublist i b) vb.srt
   have key : ∀ m i, b.length - i = m → i ≤ b.length → Agree a (b.take i) → Ev (fun k => testamurref42_Merge.l0 k b (merged a (b.take i)) (i : Int)) (mergeV a b) := by
    intro m
    induction m with
    | zero =>
     intro i h hi hag
     rw [List.take_of_length_le (by omega)] at hag ⊢
     have := merges a b
     refine Ev.step (fun k => by rw [testamurref42_Merge.l0, if_neg (by omega)]) ?_
     cases hz : mergeV a b with
     | mk x e =>
      rw [hz] at this
      cases this with
      | bad h => exact absurd ⟨va, vb, hag⟩ h
      | many _ _ _ h => rw [if_pos (by omega)]; exact Ev.now _
      | ok _ _ _ h => have := h.len; rw [if_neg (by omega)]; exact Ev.now _
    | succ m ih =>
     intro i h hi hag
     have hlt : i < b.length := by omega
     have ht : b.take (i + 1) = b.take i ++ [rd_T40 b i] := by
      rw [rd_at40 b i hlt, List.take_add_one, List.getElem?_eq_getElem hlt]
      rfl
     have hob : rd_T40 b i ∈ b := by rw [rd_at40 b i hlt]; exact List.getElem_mem _
     have hlx : (merged a (b.take i)).length ≤ 2000 := by
      have h2 := merged_len (a.length + (b.take i).length) a (b.take i)
      rw [show both (a.length + (b.take i).length) a (b.take i) = merged a (b.take i) from rfl] at h2
      simp at h2
      omega
     have hsx := merged_srt va.srt (hsb i)
     refine Ev.step (fun k => by rw [testamurref42_Merge.l0, if_pos (by omega), if_pos (by omega)]) ?_
     refine Ev.bind (rhas_ev _ (rd_T40 b i) (by omega)) ?_
     have hnext := ih (i + 1) (by omega) (by omega)
     rw [← wrap_succ i (by omega)] at hnext
     by_cases hin : rd_T40 b i ∈ merged a (b.take i)
     ·simp only [decide_eq_true hin, if_true]
      have he : merged a (b.take (i + 1)) = merged a (b.take i) := by
       refine srt_ext (merged_srt va.srt (hsb _)) hsx fun x => ?_
       rw [merged_mem, merged_mem, ht, List.mem_append, List.mem_singleton]
       constructor
       ·rintro (h | h | h)
        ·exact .inl h
        ·exact .inr h
        ·rw [h]; exact merged_mem.1 hin
       ·rintro (h | h)
        ·exact .inl h
        ·exact .inr (.inl h)
      rw [he] at hnext
      refine hnext (fun x hx y hy hk => ?_)
      rw [ht, List.mem_append, List.mem_singleton] at hy
      rcases hy with hy | hy
      ·exact hag x hx y hy hk
      ·subst hy
       rcases merged_mem.1 hin with h1 | h1
       ·exact va.ku x hx _ h1 hk
       ·exact hag x hx _ h1 hk
     ·simp only [decide_eq_false hin, Bool.false_eq_true, if_false]
      refine Ev.bind (rclash_ev _ (rd_T40 b i) (by omega)) ?_
      cases hcl : (merged a (b.take i)).any (sameKey (rd_T40 b i)) with
      | true =>
       simp only [if_true]
       obtain ⟨y, hy, hk⟩ := clash_iff.1 hcl
       have hno : ¬ Agree a b := fun h => by
        rcases merged_mem.1 hy with h1 | h1
        ·have := h y h1 _ hob (by rw [key_comm]; exact hk)
         exact hin (by rw [← this]; exact hy)
        ·have := vb.ku _ hob y (List.mem_of_mem_take h1) hk
         exact hin (by rw [this]; exact hy)
       have := merges a b
       cases hz : mergeV a b with
       | mk x e =>
        rw [hz] at this
        cases this with
        | bad => exact Ev.now _
        | many _ _ h => exact absurd h hno
        | ok _ _ h => exact absurd h hno
      | false =>
       simp only [Bool.false_eq_true, if_false]
       refine Ev.bind (rinsert_ev _ (rd_T40 b i) hsx hin (by omega)) ?_
       have he : merged (merged a (b.take i)) [rd_T40 b i] = merged a (b.take (i + 1)) := by
        refine srt_ext (merged_srt hsx (by simp [Srt])) (merged_srt va.srt (hsb _)) fun x => ?_
        simp only [merged_mem, ht, List.mem_append, List.mem_singleton, or_assoc]
       rw [he]
       refine hnext (fun x hx y hy hk => ?_)
       rw [ht, List.mem_append, List.mem_singleton] at hy
       rcases hy with hy | hy
       ·exact hag x hx y hy hk
       ·subst hy
        have : (merged a (b.take i)).any (sameKey (rd_T40 b i)) = true := clash_iff.2 ⟨x, merged_mem.2 (.inl hx), by rw [key_comm]; exact hk⟩
        rw [hcl] at this
        cases this
   have h0 := key _ 0 rfl (by omega) (by intro x hx y hy; simp at hy)
   rw [List.take_zero, merged_nil_r] at h0
   exact h0
end Go.Proofs.Ytkclehmjkncmnaa.P
