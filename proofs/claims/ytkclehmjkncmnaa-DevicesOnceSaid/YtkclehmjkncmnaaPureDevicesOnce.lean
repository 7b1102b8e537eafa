/- The plain law of DevicesOnce: what its printed function answers. -/
import Derived.Test.YtkclehmjkncmnaaP31
import Derived.Test.YtkclehmjkncmnaaT
import Derived.Test.YtkclehmjkncmnaaM4
import Derived.Test.YtkclehmjkncmnaaM10
namespace Go.Proofs.Ytkclehmjkncmnaa.P
open Go.RowKit Go.Proofs.YtkclehmjkncmnaaW.PrintWords Go.Proofs.YtkclehmjkncmnaaW.PrintLast Go.Proofs.YtkclehmjkncmnaaO
set_option linter.unusedVariables false

/-- The pure statement of the law. -/
def testamurlaw42_DevicesOnce.Pure : Prop := ∀ (l0 : List (S40)) (a1 : Int) (a2 : Int), l0.length ≤ maxLen → l0.length * 48 ≤ 140737488351232 → (l0.length ≤ maxLen ∧ ∀ y ∈ l0, G40 y) → (Lit.int .i64 a1).wf = true → (Lit.int .i64 a2).wf = true → ∃ k, testamurlaw42_DevicesOnce.f k l0 a1 a2 = some true

theorem once_l2 (l : List S40) (copies first : Int) (H : List S47) (N : Int) (c : Nat) (X : S47) (hm : l.length ≤ 9223372036854775807) (hop : ∀ o ∈ l, opV o = true) (hc : c ≤ 2000)
    (hnext : Ev (fun k => testamurlaw42_DevicesOnce.l0 k l copies first H N ((c + 1 : Nat) : Int)) true) : ∀ m i (h : S47), l.length - i = m → i ≤ l.length → (0 ≤ h.f2 ∧ h.f2 ≤ 65536) → (onC c (l.drop i)).foldl stepH h = X →
    Ev (fun k => testamurlaw42_DevicesOnce.l2 k l copies first (c : Int) H N (c : Int) l (l.length : Int) (i : Int) X.f0 X.f1 X.f2 X.f3 h.f0 h.f1 h.f2 h.f3) true := by
  intro m
  induction m with
  | zero =>
    intro i h he hi h0 hX
    rw [List.drop_of_length_le (by omega)] at hX
    have hX : h = X := hX
    subst hX
    exact Ev.step (fun k => by rw [testamurlaw42_DevicesOnce.l2, if_neg (by omega), if_neg (by simp), wrap_succ c (by omega)]) hnext
  | succ m ih =>
    intro i h he hi h0 hX
    have hlt : i < l.length := by omega
    have ho : opV (rd_T40 l i) = true := by rw [rd_at40 l i hlt]; exact hop _ (List.getElem_mem _)
    rw [List.drop_eq_getElem_cons hlt, ← rd_at40 l i hlt] at hX
    refine Ev.step (fun k => by rw [testamurlaw42_DevicesOnce.l2, if_pos (by omega)]) ?_
    have hskip : ∀ a0 a1 a2 a3 a4 a5, (onC c (l.drop (i + 1))).foldl stepH h = X → Ev (fun k => testamurlaw42_DevicesOnce.j14 k l copies first (c : Int) H N (c : Int) l (l.length : Int) (i : Int) true X.f0 X.f1 X.f2 X.f3 h.f0 h.f1 h.f2 h.f3 a0 a1 a2 a3 a4 a5) true := fun a0 a1 a2 a3 a4 a5 hX =>
      Ev.step (fun k => by rw [testamurlaw42_DevicesOnce.j14, if_pos rfl, wrap_succ i (by omega)]) (ih (i + 1) h (by omega) (by omega) h0 hX)
    by_cases hf : (rd_T40 l i).f3 = c
    · rw [show onC c (rd_T40 l i :: l.drop (i + 1)) = rd_T40 l i :: onC c (l.drop (i + 1)) by simp [onC, hf], List.foldl_cons] at hX
      have hw : wrap64 (h.f2 + 1) = h.f2 + 1 := wrap_id (by omega) (by omega)
      by_cases s1 : (rd_T40 l i).f5 = h.f2 + 1
      · by_cases s2 : (rd_T40 l i).f0 = h.f1
        · refine Ev.step (fun k => by rw [testamurlaw42_DevicesOnce.j13, if_pos (by omega), if_pos (by omega), if_pos hf, hw, if_pos s1, if_pos s2]) ?_
          cases s3 : h.f3 with
          | true =>
            have hst : stepH h (rd_T40 l i) = h := by unfold stepH; rw [if_neg (by simp [s3])]
            rw [hst] at hX
            have := hskip (rd_T40 l i).f0 (rd_T40 l i).f1 (rd_T40 l i).f2 (rd_T40 l i).f3 (rd_T40 l i).f4 (rd_T40 l i).f5 hX
            rw [s3] at this
            exact this
          | false =>
            have hts := tok_step h0 ho
            have hst : stepH h (rd_T40 l i) = if (rd_T40 l i).f2 = 1 then ⟨h.f0, (rd_T40 l i).f4, (rd_T40 l i).f5, h.f3⟩ else ⟨h.f0, h.f1, (rd_T40 l i).f5, true⟩ := by
              unfold stepH
              rw [if_pos ⟨s1, s2, s3⟩]
            by_cases hk : (rd_T40 l i).f2 = 1
            · rw [hst, if_pos hk] at hX hts
              have := ih (i + 1) ⟨h.f0, (rd_T40 l i).f4, (rd_T40 l i).f5, h.f3⟩ (by omega) (by omega) hts hX
              rw [s3] at this
              exact Ev.step (fun k => by rw [testamurlaw42_DevicesOnce.j14, if_neg (by simp), if_neg (by omega), wrap_succ i (by omega)]) this
            · rw [hst, if_neg hk] at hX hts
              have hk2 : (rd_T40 l i).f2 = 2 := by
                simp only [opV, Bool.and_eq_true, Bool.or_eq_true, decide_eq_true_eq] at ho
                rcases ho.1 with h1 | h1
                · exact absurd h1.1 hk
                · exact h1.1
              have := ih (i + 1) ⟨h.f0, h.f1, (rd_T40 l i).f5, true⟩ (by omega) (by omega) hts hX
              exact Ev.step (fun k => by rw [testamurlaw42_DevicesOnce.j14, if_neg (by simp), if_pos hk2, wrap_succ i (by omega)]) this
        · have hst : stepH h (rd_T40 l i) = h := by unfold stepH; rw [if_neg (fun q => s2 q.2.1)]
          rw [hst] at hX
          exact Ev.step (fun k => by rw [testamurlaw42_DevicesOnce.j13, if_pos (by omega), if_pos (by omega), if_pos hf, hw, if_pos s1, if_neg s2]) (hskip _ _ _ _ _ _ hX)
      · have hst : stepH h (rd_T40 l i) = h := by unfold stepH; rw [if_neg (fun q => s1 q.1)]
        rw [hst] at hX
        exact Ev.step (fun k => by rw [testamurlaw42_DevicesOnce.j13, if_pos (by omega), if_pos (by omega), if_pos hf, hw, if_neg s1]) (hskip _ _ _ _ _ _ hX)
    · rw [show onC c (rd_T40 l i :: l.drop (i + 1)) = onC c (l.drop (i + 1)) by simp [onC, hf]] at hX
      exact Ev.step (fun k => by rw [testamurlaw42_DevicesOnce.j13, if_pos (by omega), if_pos (by omega), if_neg hf]) (hskip _ _ _ _ _ _ hX)
theorem mayV_in {l : List S40} {copies first d c : Int} (h : (stateV l copies first).2 = 0) (hd : isDev d = true) (hc : 0 ≤ c ∧ c < copies) : mayV l copies first d c = (decide ((holdH l c first).f1 = d) && !(holdH l c first).f3, 0) := by
  rw [mayV, if_pos h, if_pos hd, if_pos (by simp [inI]; omega)]
theorem once_l1 (l : List S40) (copies first : Int) (H : List S47) (N : Int) (c : Nat) (X : S47) (hs : (stateV l copies first).2 = 0) (hc : (c : Int) < copies) (hX : X = holdH l c first) :
    ∀ m (d : Nat) (q : Int), 4 - d = m → d ≤ 4 → (0 ≤ q ∧ q ≤ d) → Ev (fun k => testamurlaw42_DevicesOnce.j9 k l copies first (c : Int) (q + (((List.range' d (4 - d)).filter fun e : Nat => decide (X.f1 = (e : Int)) && !X.f3).length : Int)) H N (c : Int) X.f0 X.f1 X.f2 X.f3) true →
    Ev (fun k => testamurlaw42_DevicesOnce.l1 k l copies first (c : Int) q H N (c : Int) (d : Int) X.f0 X.f1 X.f2 X.f3) true := by
  intro m
  induction m with
  | zero =>
    intro d q h hd hq hj
    obtain rfl : d = 4 := by omega
    simp only [Nat.sub_self, List.range'_zero, List.filter_nil, List.length_nil, Int.natCast_zero, Int.add_zero] at hj
    exact Ev.step (fun k => by rw [testamurlaw42_DevicesOnce.l1, if_neg (by omega)]) hj
  | succ m ih =>
    intro d q h hd hq hj
    refine Ev.step (fun k => by rw [testamurlaw42_DevicesOnce.l1, if_pos (by omega)]) ?_
    have hdv : isDev (d : Int) = true := by simp [isDev, inI]; omega
    refine Ev.step (fun k => by rw [testamurlaw42_DevicesOnce.j8, dmay_ev, mayV_in hs hdv ⟨by omega, hc⟩, Option.bind_some, if_pos rfl, ← hX, wrap_succ d (by omega)]) ?_
    rw [show 4 - d = (4 - (d + 1)) + 1 by omega, List.range'_succ, List.filter_cons] at hj
    by_cases hb : (decide (X.f1 = (d : Int)) && !X.f3) = true
    · rw [if_pos hb] at hj
      have hw : wrap64 (q + 1) = q + 1 := wrap_id (by omega) (by omega)
      simp only [if_pos hb, hw]
      refine ih (d + 1) (q + 1) (by omega) (by omega) ⟨by omega, by omega⟩ ?_
      rw [List.length_cons] at hj
      rw [show q + 1 + (((List.range' (d + 1) (4 - (d + 1))).filter fun e : Nat => decide (X.f1 = (e : Int)) && !X.f3).length : Int) = q + ((((List.range' (d + 1) (4 - (d + 1))).filter fun e : Nat => decide (X.f1 = (e : Int)) && !X.f3).length + 1 : Nat) : Int) by omega]
      exact hj
    · rw [if_neg hb] at hj
      simp only [if_neg hb]
      exact ih (d + 1) q (by omega) (by omega) ⟨by omega, by omega⟩ hj
theorem many_of {X : S47} (h : isDev X.f1 = true) : (((List.range' 0 4).filter fun e : Nat => decide (X.f1 = (e : Int)) && !X.f3).length : Int) = if X.f3 = true then 0 else 1 := by
  simp only [isDev, inI, Bool.and_eq_true, decide_eq_true_eq] at h
  have h' : X.f1 = 0 ∨ X.f1 = 1 ∨ X.f1 = 2 ∨ X.f1 = 3 := by omega
  rcases h' with h' | h' | h' | h' <;> cases h3 : X.f3 <;> simp [h', List.range'_succ]
theorem pureDevicesOnce : testamurlaw42_DevicesOnce.Pure := by
  intro l copies first hl _ _ _ _
  have hl' := len_of hl
  refine Ev.rounds ?_
  refine Ev.congr (fun k => by rw [testamurlaw42_DevicesOnce.f]) ?_
  refine Ev.bind sane_ev ?_
  simp only [if_true]
  have h2 : Ev (fun k => testamurlaw42_DevicesOnce.j2 k l copies first) true := by
    refine Ev.step (fun k => by rw [testamurlaw42_DevicesOnce.j2, devices_State.f, Option.bind_some]) ?_
    by_cases hs : (stateV l copies first).2 = 0
    · obtain ⟨vl, c0, c1, hf, hz⟩ := stateV_zero hs
      simp only [if_pos hs]
      obtain ⟨n, rfl⟩ := Int.eq_ofNat_of_zero_le c0
      have hlen : ((stateV l n first).1.length : Int) = n := by rw [hz]; simp
      refine Ev.step (fun k => by rw [testamurlaw42_DevicesOnce.j3, if_pos hlen]) ?_
      refine Ev.step (fun k => by rw [testamurlaw42_DevicesOnce.j4, hlen]) ?_
      have key : ∀ m c, n - c = m → c ≤ n → Ev (fun k => testamurlaw42_DevicesOnce.l0 k l (n : Int) first (stateV l n first).1 (n : Int) (c : Int)) true := by
        intro m
        induction m with
        | zero => intro c h hc; exact Ev.step (fun k => by rw [testamurlaw42_DevicesOnce.l0, if_neg (by omega)]) (Ev.now _)
        | succ m ih =>
          intro c h hc
          have hrd : rd_T47 (stateV l n first).1 (c : Int) = holdH l c first := by rw [hz]; exact rd47_map c (by omega)
          refine Ev.step (fun k => by rw [testamurlaw42_DevicesOnce.l0, if_pos (by omega)]) ?_
          refine Ev.step (fun k => by rw [testamurlaw42_DevicesOnce.j6, if_pos (by omega), if_pos (by omega), hrd]) ?_
          refine once_l1 l n first _ n c _ hs (by omega) rfl 4 0 0 rfl (by omega) ⟨by omega, by omega⟩ ?_
          rw [Nat.sub_zero, many_of (hold_dev vl.op hf), Int.zero_add]
          have hj11 : Ev (fun k => testamurlaw42_DevicesOnce.j11 k l (n : Int) first (c : Int) (stateV l n first).1 (n : Int) (c : Int) (holdH l c first).f0 (holdH l c first).f1 (holdH l c first).f2 (holdH l c first).f3) true := by
            refine Ev.step (fun k => by rw [testamurlaw42_DevicesOnce.j11]) ?_
            exact once_l2 l n first _ n c (holdH l c first) hl' vl.op (by omega) (ih (c + 1) (by omega) (by omega)) _ 0 ⟨c, first, 0, false⟩ rfl (by omega) ⟨Int.le_refl 0, show (0 : Int) ≤ 65536 by decide⟩ (by rw [List.drop_zero]; rfl)
          refine Ev.step (fun k => by rw [testamurlaw42_DevicesOnce.j9, if_pos (hold_f0 l c first), if_neg (by split <;> omega)]) ?_
          refine Ev.step (fun k => ?_) hj11
          rw [testamurlaw42_DevicesOnce.j10, if_neg]
          cases (holdH l c first).f3 <;> simp
      exact key _ 0 rfl (by omega)
    · simp only [if_neg hs]
      have := states l copies first
      cases hz : stateV l copies first with
      | mk x e =>
        rw [hz] at this hs
        cases this with
        | bad => exact Ev.now _
        | arg => exact Ev.now _
        | ok => exact absurd rfl hs
  have h1 : ∀ b, Ev (fun k => testamurlaw42_DevicesOnce.j1 k l copies first b) true := by
    intro b
    cases b with
    | true => exact Ev.step (fun k => by rw [testamurlaw42_DevicesOnce.j1, if_pos rfl]) (Ev.now _)
    | false => exact Ev.step (fun k => by rw [testamurlaw42_DevicesOnce.j1, if_neg (by simp)]) h2
  refine Ev.step (fun k => by rw [testamurlaw42_DevicesOnce.j0, few_ev, Option.bind_some]) ?_
  split
  · exact h1 _
  · exact h1 _

end Go.Proofs.Ytkclehmjkncmnaa.P
