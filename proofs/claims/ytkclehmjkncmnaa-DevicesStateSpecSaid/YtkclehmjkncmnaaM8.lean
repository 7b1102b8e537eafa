/- Plain laws of chapter 42: the reference's State, May answer as the program's. -/
import Derived.Test.YtkclehmjkncmnaaM10
import Derived.Test.YtkclehmjkncmnaaM5
import Derived.Test.YtkclehmjkncmnaaG12
import Derived.Test.YtkclehmjkncmnaaPA
import Derived.Test.YtkclehmjkncmnaaP28
namespace Go.Proofs.Ytkclehmjkncmnaa.P
open Go.RowKit Go.Proofs.YtkclehmjkncmnaaW.PrintWords Go.Proofs.YtkclehmjkncmnaaW.PrintLast Go.Proofs.YtkclehmjkncmnaaW.PrintMore
set_option linter.unusedVariables false

theorem sameS_ev (l : List S47) (hm : l.length ≤ 9223372036854775807) : Ev (fun k => testamurref42_SameState.f k l l) true := by
  have : ∀ m i, l.length - i = m → i ≤ l.length → Ev (fun k => testamurref42_SameState.l0 k l l (i : Int)) true := by
    intro m
    induction m with
    | zero => intro i h hi; exact Ev.step (fun k => by rw [testamurref42_SameState.l0, if_neg (by omega)]) (Ev.now _)
    | succ m ih => intro i h hi; exact Ev.step (fun k => by rw [testamurref42_SameState.l0, if_pos (by omega), if_pos (by omega), if_pos (by omega), if_neg (by simp), wrap_succ i (by omega)]) (ih (i + 1) (by omega) (by omega))
  exact Ev.congr (fun k => by rw [testamurref42_SameState.f, if_pos rfl]; rfl) (this _ 0 rfl (by omega))
def tup47 (h : S47) : Int × Int × Int × Bool := (h.f0, h.f1, h.f2, h.f3)
theorem holding_ev (l : List S40) (c first : Int) (hm : l.length ≤ 9223372036854775807) (hop : ∀ o ∈ l, opV o = true) : Ev (fun k => testamurref42_holding.f k l c first) (tup47 (holdH l c first)) := by
  have : ∀ m i (h : S47), l.length - i = m → i ≤ l.length → (0 ≤ h.f2 ∧ h.f2 ≤ 65536) → Ev (fun k => testamurref42_holding.l0 k l c (i : Int) h.f0 h.f1 h.f2 h.f3) (tup47 ((onC c (l.drop i)).foldl stepH h)) := by
    intro m
    induction m with
    | zero =>
      intro i h he hi h0
      rw [List.drop_of_length_le (by omega)]
      exact Ev.step (f := fun _ => some (tup47 h)) (fun k => by rw [testamurref42_holding.l0, if_neg (by omega)]; rfl) (Ev.now _)
    | succ m ih =>
      intro i h he hi h0
      have hlt : i < l.length := by omega
      have ho : opV (rd_T40 l i) = true := by rw [rd_at40 l i hlt]; exact hop _ (List.getElem_mem _)
      rw [List.drop_eq_getElem_cons hlt, ← rd_at40 l i hlt]
      have hskip : ∀ h : S47, (0 ≤ h.f2 ∧ h.f2 ≤ 65536) → Ev (fun k => testamurref42_holding.j1 k l c (i : Int) true h.f0 h.f1 h.f2 h.f3) (tup47 ((onC c (l.drop (i + 1))).foldl stepH h)) := fun h h0 =>
        Ev.step (fun k => by rw [testamurref42_holding.j1, if_pos rfl, wrap_succ i (by omega)]) (ih (i + 1) h (by omega) (by omega) h0)
      by_cases hc : (rd_T40 l i).f3 = c
      · rw [show onC c (rd_T40 l i :: l.drop (i + 1)) = rd_T40 l i :: onC c (l.drop (i + 1)) by simp [onC, hc], List.foldl_cons]
        have hw : wrap64 (h.f2 + 1) = h.f2 + 1 := wrap_id (by omega) (by omega)
        refine Ev.step (fun k => by rw [testamurref42_holding.l0, if_pos (by omega), if_pos (by omega), if_pos hc, testamurref42_Counts.f, hw]) ?_
        by_cases hs : (rd_T40 l i).f5 = h.f2 + 1 ∧ (rd_T40 l i).f0 = h.f1 ∧ h.f3 = false
        · obtain ⟨s1, s2, s3⟩ := hs
          have hts := tok_step h0 ho
          rw [if_pos s1, if_pos s2, s3]
          simp only [Option.bind_some, Bool.not_false, Bool.not_true]
          have hst : stepH h (rd_T40 l i) = if (rd_T40 l i).f2 = 1 then ⟨h.f0, (rd_T40 l i).f4, (rd_T40 l i).f5, h.f3⟩ else ⟨h.f0, h.f1, (rd_T40 l i).f5, true⟩ := by
            unfold stepH
            rw [if_pos ⟨s1, s2, s3⟩]
          by_cases hk : (rd_T40 l i).f2 = 1
          · rw [hst, if_pos hk] at hts ⊢
            have := ih (i + 1) ⟨h.f0, (rd_T40 l i).f4, (rd_T40 l i).f5, h.f3⟩ (by omega) (by omega) hts
            rw [s3] at this
            rw [s3]
            exact Ev.step (fun k => by rw [testamurref42_holding.j1, if_neg (by simp), if_pos (by omega), if_pos (by omega), if_pos hk, wrap_succ i (by omega)]) this
          · rw [hst, if_neg hk] at hts ⊢
            have := ih (i + 1) ⟨h.f0, h.f1, (rd_T40 l i).f5, true⟩ (by omega) (by omega) hts
            exact Ev.step (fun k => by rw [testamurref42_holding.j1, if_neg (by simp), if_pos (by omega), if_pos (by omega), if_neg hk, wrap_succ i (by omega)]) this
        · have hst : stepH h (rd_T40 l i) = h := by unfold stepH; rw [if_neg hs]
          rw [hst]
          have : (if (rd_T40 l i).f5 = h.f2 + 1 then (if (rd_T40 l i).f0 = h.f1 then some (!h.f3) else some false) else some false) = some false := by
            by_cases s1 : (rd_T40 l i).f5 = h.f2 + 1
            · by_cases s2 : (rd_T40 l i).f0 = h.f1
              · cases s3 : h.f3 with
                | false => exact absurd ⟨s1, s2, s3⟩ hs
                | true => simp [s1, s2]
              · simp [s2]
            · simp [s1]
          rw [this]
          exact hskip h h0
      · rw [show onC c (rd_T40 l i :: l.drop (i + 1)) = onC c (l.drop (i + 1)) by simp [onC, hc]]
        exact Ev.step (fun k => by rw [testamurref42_holding.l0, if_pos (by omega), if_pos (by omega), if_neg hc]) (hskip h h0)
  have h := this _ 0 ⟨c, first, 0, false⟩ rfl (by omega) ⟨Int.le_refl 0, show (0 : Int) ≤ 65536 by decide⟩
  rw [List.drop_zero] at h
  exact Ev.congr (fun k => by rw [testamurref42_holding.f]; rfl) h
theorem rstate_ev (l : List S40) (copies first : Int) (hm : l.length ≤ 9223372036854775807) : Ev (fun k => testamurref42_State.f k l copies first) (stateV l copies first) := by
  refine Ev.congr (fun k => by rw [testamurref42_State.f, testamurref42_Check.f, Option.bind_some, rin_ev, Option.bind_some, risDev_ev, Option.bind_some]) ?_
  have hT : Ev (fun k => testamurref42_State.j0 k l copies first true) ([], 1) := Ev.step (fun k => by rw [testamurref42_State.j0, if_pos rfl]) (Ev.now _)
  unfold stateV
  by_cases hc : chkD l = true
  · rw [if_pos hc, if_pos hc]
    simp only [if_true]
    by_cases h1 : inI copies 0 1024 = true
    · rw [if_pos h1]
      simp only [h1, if_true]
      by_cases h2 : isDev first = true
      · rw [if_pos h2, h2]
        have h3 : 0 ≤ copies ∧ copies ≤ 1024 := by simpa [inI] using h1
        obtain ⟨n, rfl⟩ := Int.eq_ofNat_of_zero_le h3.1
        have key : ∀ m i, n - i = m → i ≤ n → Ev (fun k => testamurref42_State.l0 k l (n : Int) first ((List.range i).map fun c : Nat => holdH l c first) (i : Int)) ((List.range n).map fun c : Nat => holdH l c first, 0) := by
          intro m
          induction m with
          | zero =>
            intro i h hi
            obtain rfl : i = n := by omega
            exact Ev.step (fun k => by rw [testamurref42_State.l0, if_neg (by omega)]) (Ev.now _)
          | succ m ih =>
            intro i h hi
            refine Ev.step (fun k => by rw [testamurref42_State.l0, if_pos (by omega)]) ?_
            refine Ev.bind (holding_ev l i first hm (chkD_iff.1 hc).op) ?_
            have := ih (i + 1) (by omega) (by omega)
            rw [List.range_succ, List.map_append] at this
            refine Ev.congr (fun k => ?_) this
            rw [if_pos (by simp; omega), wrap_succ i (by omega)]
            rfl
        refine Ev.step (fun k => by rw [Bool.not_true, testamurref42_State.j0, if_neg (by simp)]) ?_
        exact key _ 0 rfl (by omega)
      · rw [if_neg h2, Bool.eq_false_iff.2 h2]
        exact hT
    · rw [if_neg h1]
      simp only [h1, if_false]
      exact hT
  · rw [if_neg hc, if_neg hc]
    simp only [show ¬ (420 : Int) = 0 by decide, if_false]
    exact Ev.now _
theorem rmay_ev (l : List S40) (copies first device copy : Int) (hm : l.length ≤ 9223372036854775807) : Ev (fun k => testamurref42_May.f k l copies first device copy) (mayV l copies first device copy) := by
  refine Ev.congr (fun k => by rw [testamurref42_May.f]) ?_
  refine Ev.bind (rstate_ev l copies first hm) ?_
  rw [mayV]
  by_cases h : (stateV l copies first).2 = 0
  · simp only [h, if_true, risDev_ev, Option.bind_some]
    by_cases hd : isDev device = true
    · simp only [hd, if_true, rin_ev, Option.bind_some]
      cases hc : inI copy 0 (wrap64 (copies - 1)) with
      | true =>
        obtain ⟨h1, h2, h3, h4⟩ := may_at (device := device) h hc
        simp only [if_true, if_pos h2, if_pos h3, h4, if_pos h1]
        by_cases hq : (holdH l copy first).f1 = device
        · simp only [hq, if_true, decide_true, Bool.true_and]
          exact Ev.now _
        · simp only [hq, if_false, decide_false, Bool.false_and]
          exact Ev.now _
      | false =>
        simp only [may_no h hc, Bool.false_eq_true, if_false]
        exact Ev.now _
    · simp only [hd, if_false]
      exact Ev.now _
  · simp only [h, if_false]
    exact Ev.now _
end Go.Proofs.Ytkclehmjkncmnaa.P
