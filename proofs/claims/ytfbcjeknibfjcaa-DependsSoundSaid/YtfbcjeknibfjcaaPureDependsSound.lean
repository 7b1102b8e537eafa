/- The plain law of DependsSound: what its printed function answers. -/
import Derived.Test.YtfbcjeknibfjcaaT
import Derived.Test.YtfbcjeknibfjcaaP22
import Derived.Test.YtfbcjeknibfjcaaM6
namespace Go.Proofs.Ytfbcjeknibfjcaa.P
open Go.RowKit Go.Proofs.YtfbcjeknibfjcaaW.PrintWords Go.Proofs.YtfbcjeknibfjcaaW.PrintLast Go.Proofs.YtfbcjeknibfjcaaO
set_option linter.unusedVariables false

/-- The pure statement of the law. -/
def testamurlaw13_DependsSound.Pure : Prop := ∀ (x0 : S25) (l1 : List (S49)) (x2 : S29), G25 x0 → l1.length ≤ maxLen → l1.length * 48 ≤ 140737488351232 → (l1.length ≤ maxLen ∧ ∀ y ∈ l1, G49 y) → G29 x2 → ∃ k, testamurlaw13_DependsSound.f k x0.f0 x0.f1 x0.f2 x0.f3 x0.f4 x0.f5 l1 x2.f0 x2.f1 x2.f2 x2.f3 = some true

theorem pairs_all {m i j : Nat} (hij : i < j) (hj : j < m) : (i, j) ∈ pairsL m := by
  simp only [pairsL, rowsP, rowP, List.mem_flatMap, List.mem_map, List.mem_range'_1, Prod.mk.injEq]
  exact ⟨i, by omega, j, by omega, rfl, rfl⟩
/-- Where nothing is found, no two instances break a dependency of the schema. -/
theorem search_none {l : List S49} {ds : List S29} (h : search l ds = none) {i j : Nat} (hij : i < j) (hj : j < l.length) : ∀ d ∈ ds, brkR (rowAt l i) (rowAt l j) d = false := by
  rw [search, List.findSome?_eq_none_iff] at h
  have := h (i, j) (pairs_all hij hj)
  simp only [Option.map_eq_none_iff, firstB, List.findIdx?_eq_none_iff] at this
  exact this
theorem brkR_alike {x y : List Int} {d : S29} (h : brkR x y d = false) (hf : ∀ f ∈ d.f2, rd x f = rd y f) : rd x d.f3 = rd y d.f3 := by
  have e : (d.f2.any fun f => rd x f != rd y f) = false := by
    rw [List.any_eq_false]
    intro f hf'
    simp [hf f hf']
  rw [brkR, e] at h
  simpa using h
theorem pureDependsSound : testamurlaw13_DependsSound.Pure := by
  intro x l d hx hl _ _ hd
  have hb := bd_of hx
  have hl' : l.length ≤ 9223372036854775807 := by simpa [maxLen] using hl
  have hd' : d.f2.length ≤ 9223372036854775807 := by have := hd.2.2.1.1; simpa [maxLen] using this
  refine Ev.rounds ?_
  refine Ev.congr (f := fun k => testamurlaw13_DependsSound.j0 k l x.f0 x.f1 x.f2 x.f3 x.f4 x.f5 d.f0 d.f1 d.f2 d.f3) (fun k => by rw [testamurlaw13_DependsSound.f, testamurlaw13_sane.f]; rfl) ?_
  obtain ⟨r, hr⟩ := few_ev x.f0 x.f1 x.f2 x.f3 x.f4 x.f5 hb.1
  obtain ⟨q, hq⟩ := fewI_ev l hl'
  have hT : Ev (fun k => testamurlaw13_DependsSound.j3 k l true d.f0 d.f1 d.f2 d.f3) true := Ev.step (fun k => by rw [testamurlaw13_DependsSound.j3, if_pos rfl]) (Ev.now _)
  have h1 : ∀ b, Ev (fun k => testamurlaw13_DependsSound.j1 k l b x.f0 x.f1 x.f2 x.f3 x.f4 x.f5 d.f0 d.f1 d.f2 d.f3) true := by
    intro b
    cases b with
    | true => exact Ev.step (fun k => by rw [testamurlaw13_DependsSound.j1, if_pos rfl]) (Ev.now _)
    | false =>
      refine Ev.step (fun k => by rw [testamurlaw13_DependsSound.j1, if_neg (by simp)]) ?_
      refine Ev.step (fun k => by rw [testamurlaw13_DependsSound.j2, depends_Broken.f]) ?_
      refine Ev.bind (Ev.now _) ?_
      refine Ev.bind (implied_ev _ _ _ _ _ hb _ _ hd' _) ?_
      split
      · rename_i e1
        split
        · rename_i e2
          split
          · exact hT
          · rename_i e3
            cases e4 : (implV x.f4.length x.f5 d.f2 d.f3).1 with
            | false => exact hT
            | true =>
              -- the schema and the dependency are valid, the rows are whole, nothing is broken, and the dependency follows
              have hc : chk x.f4.length x.f5 = true := by
                cases hc : chk x.f4.length x.f5 with
                | true => rfl
                | false => rw [implV, hc] at e2; simp at e2
              have hv : vld x.f4.length d.f2 d.f3 = true := by
                cases hv : vld x.f4.length d.f2 d.f3 with
                | true => rfl
                | false => rw [implV, hc, hv] at e2; simp at e2
              have hcl : Cl x.f5 (· ∈ d.f2) d.f3 := by
                rw [implV, hc, hv] at e4
                simpa using e4
              have hany : (l.any fun x_1 => x_1.f3.length != x.f4.length) = false := by
                cases hany : l.any fun x_1 => x_1.f3.length != x.f4.length with
                | false => rfl
                | true => rw [brokenV, hc, hany] at e1; simp at e1
              have hs : search l x.f5 = none := by
                cases hs : search l x.f5 with
                | none => rfl
                | some p => rw [brokenV, hc, hany, hs] at e3; simp at e3
              have hrow := fun i (hi : i < l.length) => row_len hany i hi
              have hkey : ∀ i j, j < i → i < l.length → brk (rd_T49 l i).f3 (rd_T49 l j).f3 d.f2 d.f3 = false := by
                intro i j hji hi
                cases hbk : brk (rd_T49 l i).f3 (rd_T49 l j).f3 d.f2 d.f3 with
                | false => rfl
                | true =>
                  exfalso
                  rw [brk, Bool.and_eq_true, List.all_eq_true] at hbk
                  obtain ⟨ha, hz⟩ := hbk
                  have hal : ∀ f ∈ d.f2, rd (rowAt l j) f = rd (rowAt l i) f := by
                    intro f hf
                    have := ha f hf
                    rw [alikeB, Bool.and_eq_true, beq_iff_eq] at this
                    exact this.2.symm
                  have := hcl.least (T := fun f => rd (rowAt l j) f = rd (rowAt l i) f) hal (fun e he hall => brkR_alike (search_none hs hji hi e he) hall)
                  rw [Bool.and_eq_true] at hz
                  have hne := hz.2
                  rw [rowAt, rowAt] at this
                  rw [this] at hne
                  simp at hne
              have hl1 : ∀ i, i < l.length → Ev (fun k => testamurlaw13_DependsSound.l0 k l l (l.length : Int) ((i + 1 : Nat) : Int) d.f0 d.f1 d.f2 d.f3) true →
                  ∀ e j, i - j = e → j ≤ i → Ev (fun k => testamurlaw13_DependsSound.l1 k l l (l.length : Int) (i : Int) (l.take i) (i : Int) (j : Int) d.f0 d.f1 d.f2 d.f3 (rd_T49 l i).f0 (rd_T49 l i).f1 (rd_T49 l i).f2 (rd_T49 l i).f3) true := by
                intro i hi h0 e
                induction e with
                | zero =>
                  intro j he hj
                  exact Ev.step (fun k => by rw [testamurlaw13_DependsSound.l1, if_neg (by omega), wrap_succ i (by omega)]) h0
                | succ e ih =>
                  intro j he hj
                  have hr2 : rd_T49 (l.take i) (j : Int) = rd_T49 l (j : Int) := by
                    rw [rd_at49 _ j (by simp; omega), rd_at49 l j (by omega)]
                    simp
                  refine Ev.step (fun k => by rw [testamurlaw13_DependsSound.l1, if_pos (by omega), if_pos (by omega), if_pos (by simp; omega), testamurlaw13_breaks.f, hr2, hkey i j (by omega) hi, Option.bind_some, if_neg (by simp), wrap_succ j (by omega)]) (ih (j + 1) (by omega) (by omega))
              have hl0 : ∀ e i, l.length - i = e → i ≤ l.length → Ev (fun k => testamurlaw13_DependsSound.l0 k l l (l.length : Int) (i : Int) d.f0 d.f1 d.f2 d.f3) true := by
                intro e
                induction e with
                | zero => intro i he hi; exact Ev.step (fun k => by rw [testamurlaw13_DependsSound.l0, if_neg (by omega)]) (Ev.now _)
                | succ e ih =>
                  intro i he hi
                  refine Ev.step (fun k => by rw [testamurlaw13_DependsSound.l0, if_pos (by omega)]) ?_
                  refine Ev.step (f := fun k => testamurlaw13_DependsSound.l1 k l l (l.length : Int) (i : Int) (l.take i) (i : Int) ((0 : Nat) : Int) d.f0 d.f1 d.f2 d.f3 (rd_T49 l i).f0 (rd_T49 l i).f1 (rd_T49 l i).f2 (rd_T49 l i).f3) (fun k => ?_) (hl1 i (by omega) (ih (i + 1) (by omega) (by omega)) _ 0 rfl (by omega))
                  rw [testamurlaw13_DependsSound.j6, if_pos (by omega), if_pos (by omega), if_pos (by omega)]
                  have : (l.take i).length = i := by simp; omega
                  simp only [Option.bind_some, Int.toNat_natCast, this]
                  rfl
              refine Ev.step (fun k => by rw [testamurlaw13_DependsSound.j3, if_neg (by simp)]) ?_
              exact Ev.step (fun k => by rw [testamurlaw13_DependsSound.j4]; rfl) (hl0 _ 0 rfl (by omega))
        · exact hT
      · exact hT
  refine Ev.step (fun k => by rw [testamurlaw13_DependsSound.j0]) ?_
  refine Ev.bind hr ?_
  cases r with
  | true =>
    simp only [if_true]
    refine Ev.bind hq ?_
    cases q with
    | true => simp only [if_true]; exact h1 _
    | false => simp only [Bool.false_eq_true, if_false]; exact h1 _
  | false =>
    simp only [Bool.false_eq_true, if_false]
    exact h1 _

end Go.Proofs.Ytfbcjeknibfjcaa.P
