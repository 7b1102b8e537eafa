/- The plain law of DependsFirst: what its printed function answers. -/
import Derived.Test.YtfbcjeknibfjcaaT
import Derived.Test.YtfbcjeknibfjcaaP24
import Derived.Test.YtfbcjeknibfjcaaM6
namespace Go.Proofs.Ytfbcjeknibfjcaa.P
open Go.RowKit Go.Proofs.YtfbcjeknibfjcaaW.PrintWords Go.Proofs.YtfbcjeknibfjcaaW.PrintLast Go.Proofs.YtfbcjeknibfjcaaO
set_option linter.unusedVariables false

/-- The pure statement of the law. -/
def testamurlaw13_DependsFirst.Pure : Prop := ∀ (x0 : S25) (l1 : List (S49)), G25 x0 → l1.length ≤ maxLen → l1.length * 48 ≤ 140737488351232 → (l1.length ≤ maxLen ∧ ∀ y ∈ l1, G49 y) → ∃ k, testamurlaw13_DependsFirst.f k x0.f0 x0.f1 x0.f2 x0.f3 x0.f4 x0.f5 l1 = some true

theorem sr_cons (l : List S49) (ds : List S29) (p : Nat × Nat) (ps : List (Nat × Nat)) : sr l ds (p :: ps) = match firstB l ds p with | some k => some (p.1, p.2, k) | none => sr l ds ps := by
  rw [sr, List.findSome?_cons]
  cases firstB l ds p <;> rfl
/-- What is found is the first. -/
theorem sr_row {l : List S49} {ds : List S29} {m a i j k : Nat} {rest : List (Nat × Nat)} : ∀ {b : Nat}, sr l ds (rowP m a b ++ rest) = some (i, j, k) →
    (i = a ∧ b ≤ j ∧ j < m ∧ firstB l ds (i, j) = some k ∧ ∀ q, b ≤ q → q < j → firstB l ds (a, q) = none) ∨ (sr l ds rest = some (i, j, k) ∧ ∀ q, b ≤ q → q < m → firstB l ds (a, q) = none) := by
  intro b
  generalize he : m - b = e
  induction e generalizing b with
  | zero =>
    intro h
    rw [rowP_ge (by omega), List.nil_append] at h
    exact .inr ⟨h, fun q hq hm => absurd hm (by omega)⟩
  | succ e ih =>
    intro h
    rw [rowP_lt (by omega), List.cons_append, sr_cons] at h
    cases hf : firstB l ds (a, b) with
    | some k' =>
      rw [hf] at h
      simp only [Option.some.injEq, Prod.mk.injEq] at h
      obtain ⟨rfl, rfl, rfl⟩ := h
      exact .inl ⟨rfl, Nat.le_refl _, by omega, hf, fun q hq hj => absurd hj (by omega)⟩
    | none =>
      rw [hf] at h
      rcases ih (by omega) h with ⟨h1, h2, h3, h4, h5⟩ | ⟨h1, h2⟩
      · refine .inl ⟨h1, by omega, h3, h4, fun q hq hj => ?_⟩
        rcases Nat.lt_or_ge b q with h' | h'
        · exact h5 q h' hj
        · obtain rfl : q = b := by omega
          exact hf
      · refine .inr ⟨h1, fun q hq hm => ?_⟩
        rcases Nat.lt_or_ge b q with h' | h'
        · exact h2 q h' hm
        · obtain rfl : q = b := by omega
          exact hf
theorem sr_rows {l : List S49} {ds : List S29} {m i j k : Nat} : ∀ {a : Nat}, sr l ds (rowsP m a) = some (i, j, k) →
    a ≤ i ∧ i < j ∧ j < m ∧ firstB l ds (i, j) = some k ∧ ∀ p q, a ≤ p → p < q → q < m → (p < i ∨ (p = i ∧ q < j)) → firstB l ds (p, q) = none := by
  intro a
  generalize he : m - a = e
  induction e generalizing a with
  | zero =>
    intro h
    rw [rowsP_ge (by omega)] at h
    cases h
  | succ e ih =>
    intro h
    rw [rowsP_lt (by omega)] at h
    rcases sr_row h with ⟨rfl, h2, h3, h4, h5⟩ | ⟨h1, h2⟩
    · refine ⟨Nat.le_refl _, by omega, h3, h4, fun p q hp hpq hq hh => ?_⟩
      rcases hh with hh | ⟨rfl, hh⟩
      · omega
      · exact h5 q (by omega) hh
    · obtain ⟨g1, g2, g3, g4, g5⟩ := ih (by omega) h1
      refine ⟨by omega, g2, g3, g4, fun p q hp hpq hq hh => ?_⟩
      rcases Nat.lt_or_ge a p with h' | h'
      · exact g5 p q h' hpq hq hh
      · obtain rfl : p = a := by omega
        exact h2 q (by omega) hq
theorem brk_eq {n : Nat} {x y : List Int} {d : S29} (hx : x.length = n) (hy : y.length = n) (hv : vld n d.f2 d.f3 = true) : brk x y d.f2 d.f3 = brkR x y d := by
  have hi : ∀ f : Int, 0 ≤ f → f < n → insB x.length y.length f = true := fun f h0 h1 => insB_iff.2 ⟨h0, by omega, by omega⟩
  rw [brk, brkR, hi d.f3 (vld_to hv).1 (vld_to hv).2, Bool.true_and]
  congr 1
  rw [Bool.eq_iff_iff, Bool.not_eq_true', List.all_eq_true, List.any_eq_false]
  refine forall_congr' fun f => forall_congr' fun hf => ?_
  rw [alikeB, hi f (vld_from hv f hf).1 (vld_from hv f hf).2]
  simp
theorem firstB_not {l : List S49} {ds : List S29} {p : Nat × Nat} (h : firstB l ds p = none) (k : Nat) (hk : k < ds.length) : brkR (rowAt l p.1) (rowAt l p.2) (rd_T29 ds k) = false := by
  rw [firstB, List.findIdx?_eq_none_iff] at h
  rw [rd_at29 ds k hk]
  exact h _ (List.getElem_mem _)
theorem firstB_is {l : List S49} {ds : List S29} {p : Nat × Nat} {n : Nat} (h : firstB l ds p = some n) : n < ds.length ∧ brkR (rowAt l p.1) (rowAt l p.2) (rd_T29 ds n) = true ∧ ∀ k, k < n → brkR (rowAt l p.1) (rowAt l p.2) (rd_T29 ds k) = false := by
  rw [firstB, List.findIdx?_eq_some_iff_getElem] at h
  obtain ⟨hn, h1, h2⟩ := h
  refine ⟨hn, by rw [rd_at29 ds n hn]; exact h1, fun k hk => ?_⟩
  rw [rd_at29 ds k (by omega)]
  simpa using h2 k hk
theorem pureDependsFirst : testamurlaw13_DependsFirst.Pure := by
  intro x l hx hl _ _
  have hb := bd_of hx
  have hl' : l.length ≤ 9223372036854775807 := by simpa [maxLen] using hl
  refine Ev.rounds ?_
  refine Ev.congr (f := fun k => testamurlaw13_DependsFirst.j0 k l x.f0 x.f1 x.f2 x.f3 x.f4 x.f5) (fun k => by rw [testamurlaw13_DependsFirst.f, testamurlaw13_sane.f]; rfl) ?_
  obtain ⟨r, hr⟩ := few_ev x.f0 x.f1 x.f2 x.f3 x.f4 x.f5 hb.1
  obtain ⟨q, hq⟩ := fewI_ev l hl'
  have hN : Ev (fun k => testamurlaw13_DependsFirst.j3 k l 0 0 0 false true x.f0 x.f1 x.f2 x.f3 x.f4 x.f5) true := Ev.step (fun k => by rw [testamurlaw13_DependsFirst.j3, if_pos rfl, if_pos rfl, if_pos rfl, if_pos rfl]; rfl) (Ev.now _)
  have h1 : ∀ b, Ev (fun k => testamurlaw13_DependsFirst.j1 k l b x.f0 x.f1 x.f2 x.f3 x.f4 x.f5) true := by
    intro b
    cases b with
    | true => exact Ev.step (fun k => by rw [testamurlaw13_DependsFirst.j1, if_pos rfl]) (Ev.now _)
    | false =>
      refine Ev.step (fun k => by rw [testamurlaw13_DependsFirst.j1, if_neg (by simp)]) ?_
      refine Ev.step (fun k => by rw [testamurlaw13_DependsFirst.j2, depends_Broken.f]) ?_
      refine Ev.bind (Ev.now _) ?_
      cases hc : chk x.f4.length x.f5 with
      | false =>
        rw [brokenV, hc]
        exact hN
      | true =>
        cases hany : l.any fun x_1 => x_1.f3.length != x.f4.length with
        | true =>
          rw [brokenV, hc, hany]
          exact hN
        | false =>
          cases hs : search l x.f5 with
          | none =>
            rw [brokenV, hc, hany, hs]
            exact hN
          | some o =>
            obtain ⟨i, j, n⟩ := o
            rw [brokenV, hc, hany, hs]
            simp only [if_true, Bool.false_eq_true, if_false, Bool.not_true]
            obtain ⟨-, hij, hjm, hfk, hbe⟩ := sr_rows (l := l) (ds := x.f5) (a := 0) hs
            obtain ⟨hnl, hn1, hn2⟩ := firstB_is hfk
            have hrow := fun i (hi : i < l.length) => row_len hany i hi
            have hbk : ∀ p q k, p < l.length → q < l.length → k < x.f5.length → brk (rd_T49 l p).f3 (rd_T49 l q).f3 (rd_T29 x.f5 k).f2 (rd_T29 x.f5 k).f3 = brkR (rowAt l p) (rowAt l q) (rd_T29 x.f5 k) := fun p q k hp hq hk => brk_eq (hrow p hp) (hrow q hq) (chk_vld hc k hk)
            have hl3 : ∀ e z, n - z = e → z ≤ n → Ev (fun k => testamurlaw13_DependsFirst.l3 k l (i : Int) (j : Int) (x.f5.take n) (n : Int) (z : Int)) true := by
              intro e
              induction e with
              | zero => intro z he hz; exact Ev.step (fun k => by rw [testamurlaw13_DependsFirst.l3, if_neg (by omega)]) (Ev.now _)
              | succ e ih =>
                intro z he hz
                have hz2 : rd_T29 (x.f5.take n) (z : Int) = rd_T29 x.f5 (z : Int) := by
                  rw [rd_at29 _ z (by simp; omega), rd_at29 _ z (by omega)]
                  simp
                exact Ev.step (fun k => by rw [testamurlaw13_DependsFirst.l3, if_pos (by omega), if_pos (by omega), if_pos (by simp; omega), if_pos (by omega), if_pos (by omega), if_pos (by omega), if_pos (by omega), testamurlaw13_breaks.f, hz2, hbk i j z (by omega) (by omega) (by omega), hn2 z (by omega), Option.bind_some, if_neg (by simp), wrap_succ z (by have := hb.1; omega)]) (ih (z + 1) (by omega) (by omega))
            have hend : Ev (fun k => testamurlaw13_DependsFirst.l0 k l (i : Int) (j : Int) (n : Int) ((i + 1 : Nat) : Int) x.f0 x.f1 x.f2 x.f3 x.f4 x.f5) true := by
              refine Ev.step (fun k => by rw [testamurlaw13_DependsFirst.l0, if_neg (by omega)]) ?_
              refine Ev.step (f := fun k => testamurlaw13_DependsFirst.l3 k l (i : Int) (j : Int) (x.f5.take n) (n : Int) ((0 : Nat) : Int)) (fun k => ?_) (hl3 _ 0 rfl (by omega))
              rw [testamurlaw13_DependsFirst.j13, if_pos (by omega), if_pos (by omega)]
              have : (x.f5.take n).length = n := by simp; omega
              simp only [Option.bind_some, Int.toNat_natCast, this]
              rfl
            have hl2 : ∀ p q, p < q → q < l.length → (p < i ∨ (p = i ∧ q < j)) → Ev (fun k => testamurlaw13_DependsFirst.l1 k l (i : Int) (j : Int) (n : Int) (p : Int) ((q + 1 : Nat) : Int) x.f0 x.f1 x.f2 x.f3 x.f4 x.f5) true →
                ∀ e z, x.f5.length - z = e → z ≤ x.f5.length → Ev (fun k => testamurlaw13_DependsFirst.l2 k l (i : Int) (j : Int) (n : Int) (p : Int) (q : Int) x.f5 (x.f5.length : Int) (z : Int) x.f0 x.f1 x.f2 x.f3 x.f4 x.f5) true := by
              intro p q hpq hq hlt h1 e
              induction e with
              | zero => intro z he hz; exact Ev.step (fun k => by rw [testamurlaw13_DependsFirst.l2, if_neg (by omega), wrap_succ q (by omega)]) h1
              | succ e ih =>
                intro z he hz
                exact Ev.step (fun k => by rw [testamurlaw13_DependsFirst.l2, if_pos (by omega), if_pos (by omega), if_pos (by omega), if_pos (by omega), if_pos (by omega), if_pos (by omega), if_pos (by omega), testamurlaw13_breaks.f, hbk p q z (by omega) (by omega) (by omega), firstB_not (hbe p q (by omega) hpq hq hlt) z (by omega), Option.bind_some, if_neg (by simp), wrap_succ z (by have := hb.1; omega)]) (ih (z + 1) (by omega) (by omega))
            have hl1 : ∀ p, p ≤ i → Ev (fun k => testamurlaw13_DependsFirst.l0 k l (i : Int) (j : Int) (n : Int) ((p + 1 : Nat) : Int) x.f0 x.f1 x.f2 x.f3 x.f4 x.f5) true →
                ∀ e q, l.length - q = e → q ≤ l.length → p < q → Ev (fun k => testamurlaw13_DependsFirst.l1 k l (i : Int) (j : Int) (n : Int) (p : Int) (q : Int) x.f0 x.f1 x.f2 x.f3 x.f4 x.f5) true := by
              intro p hp h0 e
              induction e with
              | zero => intro q he hq hpq; exact Ev.step (fun k => by rw [testamurlaw13_DependsFirst.l1, if_neg (by omega), wrap_succ p (by omega)]) h0
              | succ e ih =>
                intro q he hq hpq
                have hgo : (p < i ∨ (p = i ∧ q < j)) → Ev (fun k => testamurlaw13_DependsFirst.j10 k l (i : Int) (j : Int) (n : Int) (p : Int) (q : Int) false x.f0 x.f1 x.f2 x.f3 x.f4 x.f5) true := by
                  intro hh
                  refine Ev.step (fun k => by rw [testamurlaw13_DependsFirst.j10, if_neg (by simp)]) ?_
                  exact Ev.step (fun k => by rw [testamurlaw13_DependsFirst.j11]; rfl) (hl2 p q hpq (by omega) hh (ih (q + 1) (by omega) (by omega) (by omega)) _ 0 rfl (by omega))
                refine Ev.step (fun k => by rw [testamurlaw13_DependsFirst.l1, if_pos (by omega)]) ?_
                by_cases hpi : p = i
                · by_cases hqj : q < j
                  · refine Ev.step (fun k => by rw [testamurlaw13_DependsFirst.j9, if_pos (by omega), decide_eq_false (by omega)]) (hgo (.inr ⟨hpi, hqj⟩))
                  · refine Ev.step (fun k => by rw [testamurlaw13_DependsFirst.j9, if_pos (by omega), decide_eq_true (by omega)]) ?_
                    exact Ev.step (fun k => by rw [testamurlaw13_DependsFirst.j10, if_pos rfl, wrap_succ p (by omega)]) h0
                · exact Ev.step (fun k => by rw [testamurlaw13_DependsFirst.j9, if_neg (by omega)]) (hgo (.inl (by omega)))
            have hl0 : ∀ e p, i + 1 - p = e → p ≤ i + 1 → Ev (fun k => testamurlaw13_DependsFirst.l0 k l (i : Int) (j : Int) (n : Int) (p : Int) x.f0 x.f1 x.f2 x.f3 x.f4 x.f5) true := by
              intro e
              induction e with
              | zero =>
                intro p he hp
                obtain rfl : p = i + 1 := by omega
                exact hend
              | succ e ih =>
                intro p he hp
                refine Ev.step (fun k => by rw [testamurlaw13_DependsFirst.l0, if_pos (by omega)]) ?_
                exact Ev.step (fun k => by rw [testamurlaw13_DependsFirst.j7, wrap_succ p (by omega)]) (hl1 p (by omega) (ih (p + 1) (by omega) (by omega)) _ (p + 1) rfl (by omega) (by omega))
            refine Ev.step (fun k => by rw [testamurlaw13_DependsFirst.j3, if_neg (by simp)]) ?_
            refine Ev.step (fun k => by rw [testamurlaw13_DependsFirst.j4, if_neg (by omega), if_neg (by omega), if_neg (by omega), if_neg (by omega), if_neg (by omega), if_pos (by omega), if_pos (by omega), if_pos (by omega), if_pos (by omega), if_pos (by omega), if_pos (by omega), testamurlaw13_breaks.f, hbk i j n (by omega) (by omega) hnl, hn1, Option.bind_some, if_pos rfl]) ?_
            exact Ev.step (fun k => by rw [testamurlaw13_DependsFirst.j5]; rfl) (hl0 _ 0 rfl (by omega))
  refine Ev.step (fun k => by rw [testamurlaw13_DependsFirst.j0]) ?_
  refine Ev.bind hr ?_
  cases r with
  | true =>
    simp only [if_true]
    exact Ev.bind hq (h1 _)
  | false =>
    simp only [Bool.false_eq_true, if_false]
    exact h1 _

end Go.Proofs.Ytfbcjeknibfjcaa.P
