/- The plain law of DevicesStale: what its printed function answers. -/
import Derived.Test.YtkclehmjkncmnaaP34
import Derived.Test.YtkclehmjkncmnaaT
import Derived.Test.YtkclehmjkncmnaaM4
import Derived.Test.YtkclehmjkncmnaaM10
import Derived.Test.YtkclehmjkncmnaaM9
namespace Go.Proofs.Ytkclehmjkncmnaa.P
open Go.RowKit Go.Proofs.YtkclehmjkncmnaaW.PrintWords Go.Proofs.YtkclehmjkncmnaaW.PrintLast Go.Proofs.YtkclehmjkncmnaaO
set_option linter.unusedVariables false

/-- The pure statement of the law. -/
def testamurlaw42_DevicesStale.Pure : Prop := ∀ (l0 : List (S40)) (l1 : List (S40)) (a2 : Int) (a3 : Int), l0.length ≤ maxLen → l0.length * 48 ≤ 140737488351232 → (l0.length ≤ maxLen ∧ ∀ y ∈ l0, G40 y) → l1.length ≤ maxLen → l1.length * 48 ≤ 140737488351232 → (l1.length ≤ maxLen ∧ ∀ y ∈ l1, G40 y) → (Lit.int .i64 a2).wf = true → (Lit.int .i64 a3).wf = true → ∃ k, testamurlaw42_DevicesStale.f k l0 l1 a2 a3 = some true

def hadB (l : List S40) (c first d : Int) : Bool := decide (d = first) || l.any fun o => decide (o.f3 = c) && (decide (o.f0 = d) || (decide (o.f2 = 1) && decide (o.f4 = d)))
theorem hadB_iff {l : List S40} {c first d : Int} : hadB l c first d = true ↔ Had l c first d := by
  simp [hadB, Had, List.any_eq_true]
theorem had_ev (l : List S40) (c first d : Int) (hm : l.length ≤ 9223372036854775807) : Ev (fun k => testamurlaw42_had.f k l c first d) (hadB l c first d) := by
  have : ∀ m i, l.length - i = m → i ≤ l.length → Ev (fun k => testamurlaw42_had.l0 k c d l (l.length : Int) (i : Int)) ((l.drop i).any fun o => decide (o.f3 = c) && (decide (o.f0 = d) || (decide (o.f2 = 1) && decide (o.f4 = d)))) := by
    intro m
    induction m with
    | zero =>
      intro i h hi
      rw [List.drop_of_length_le (by omega)]
      exact Ev.step (f := fun _ => some false) (fun k => by rw [testamurlaw42_had.l0, if_neg (by omega)]) (Ev.now _)
    | succ m ih =>
      intro i h hi
      have hlt : i < l.length := by omega
      have hn := ih (i + 1) (by omega) (by omega)
      rw [List.drop_eq_getElem_cons hlt, ← rd_at40 l i hlt, List.any_cons]
      by_cases q : (rd_T40 l i).f3 = c
      · by_cases q1 : (rd_T40 l i).f0 = d
        · simp only [q, q1, decide_true, Bool.true_or, Bool.and_self]
          exact Ev.step (fun k => by rw [testamurlaw42_had.l0, if_pos (by omega), if_pos (by omega), if_pos (by omega), if_pos q, if_pos q1]) (Ev.now _)
        · by_cases q2 : (rd_T40 l i).f2 = 1
          · by_cases q3 : (rd_T40 l i).f4 = d
            · simp only [q, q2, q3, decide_true, Bool.or_true, Bool.and_self, Bool.true_or]
              exact Ev.step (fun k => by rw [testamurlaw42_had.l0, if_pos (by omega), if_pos (by omega), if_pos (by omega), if_pos q, if_neg q1, if_pos q2, if_pos q3]) (Ev.now _)
            · rw [decide_eq_false q1, decide_eq_false q3, Bool.and_false, Bool.or_false, Bool.and_false, Bool.false_or]
              exact Ev.step (fun k => by rw [testamurlaw42_had.l0, if_pos (by omega), if_pos (by omega), if_pos (by omega), if_pos q, if_neg q1, if_pos q2, if_neg q3, wrap_succ i (by omega)]) hn
          · rw [decide_eq_false q1, decide_eq_false q2, Bool.false_and, Bool.or_false, Bool.and_false, Bool.false_or]
            exact Ev.step (fun k => by rw [testamurlaw42_had.l0, if_pos (by omega), if_pos (by omega), if_pos (by omega), if_pos q, if_neg q1, if_neg q2, wrap_succ i (by omega)]) hn
      · rw [decide_eq_false q, Bool.false_and, Bool.false_or]
        exact Ev.step (fun k => by rw [testamurlaw42_had.l0, if_pos (by omega), if_pos (by omega), if_pos (by omega), if_neg q, wrap_succ i (by omega)]) hn
  by_cases h : d = first
  · rw [hadB, decide_eq_true h, Bool.true_or]
    exact Ev.congr (fun k => by rw [testamurlaw42_had.f, if_pos h]) (Ev.now _)
  · have h0 := this _ 0 rfl (by omega)
    rw [List.drop_zero] at h0
    rw [hadB, decide_eq_false h, Bool.false_or]
    exact Ev.congr (fun k => by rw [testamurlaw42_had.f, if_neg h]; rfl) h0
theorem stale_l1 (a b : List S40) (first : Int) (n c : Nat) (va : Srt a) (vb : Srt b) (ha : a.length ≤ 9223372036854775807) (hb : b.length ≤ 9223372036854775807) (hc : c < n) (hn : n ≤ 2000)
    (hnext : Ev (fun k => testamurlaw42_DevicesStale.l0 k a b first ((List.range n).map fun c : Nat => holdH a c first) ((List.range n).map fun c : Nat => holdH (merged a b) c first) (n : Int) ((c + 1 : Nat) : Int)) true) :
    ∀ m i (own : Bool), b.length - i = m → i ≤ b.length → (own = false → ∀ o ∈ b.take i, o.f3 = c → o ∉ a → ¬ Had a c first o.f0) →
    Ev (fun k => testamurlaw42_DevicesStale.l1 k a b first ((List.range n).map fun c : Nat => holdH a c first) ((List.range n).map fun c : Nat => holdH (merged a b) c first) (c : Int) own (n : Int) (c : Int) b (b.length : Int) (i : Int)) true := by
  intro m
  induction m with
  | zero =>
    intro i own h hi hown
    refine Ev.step (fun k => by rw [testamurlaw42_DevicesStale.l1, if_neg (by omega), wrap_succ c (by omega)]) ?_
    cases own with
    | true => simp only [if_true]; exact hnext
    | false =>
      have hs : holdH (merged a b) c first = holdH a c first := hold_stale va vb (by
        have := hown rfl
        rwa [List.take_of_length_le (by omega)] at this)
      simp only [Bool.false_eq_true, if_false]
      refine Ev.congr (fun k => ?_) hnext
      rw [if_pos (by omega), if_pos (by simp; omega), if_pos (by simp; omega), rd47_map c hc, rd47_map c hc, hs, if_neg (by simp)]
  | succ m ih =>
    intro i own h hi hown
    have hlt : i < b.length := by omega
    have ht : b.take (i + 1) = b.take i ++ [rd_T40 b i] := by
      rw [rd_at40 b i hlt, List.take_add_one, List.getElem?_eq_getElem hlt]
      rfl
    have hT := ih (i + 1) true (by omega) (by omega) (fun h => by cases h)
    have hS : (own = false → (rd_T40 b i).f3 = c → rd_T40 b i ∉ a → ¬ Had a c first (rd_T40 b i).f0) → Ev (fun k => testamurlaw42_DevicesStale.l1 k a b first ((List.range n).map fun c : Nat => holdH a c first) ((List.range n).map fun c : Nat => holdH (merged a b) c first) (c : Int) own (n : Int) (c : Int) b (b.length : Int) ((i + 1 : Nat) : Int)) true := fun q =>
      ih (i + 1) own (by omega) (by omega) (fun h o ho => by
        rw [ht, List.mem_append, List.mem_singleton] at ho
        rcases ho with ho | rfl
        · exact hown h o ho
        · exact q h)
    refine Ev.step (fun k => by rw [testamurlaw42_DevicesStale.l1, if_pos (by omega)]) ?_
    by_cases hf : (rd_T40 b i).f3 = c
    · refine Ev.step (fun k => by rw [testamurlaw42_DevicesStale.j8, if_pos (by omega), if_pos (by omega), if_pos hf, wrap_succ i (by omega)]) ?_
      refine Ev.bind (rhas_ev a (rd_T40 b i) ha) ?_
      by_cases hin : rd_T40 b i ∈ a
      · simp only [decide_eq_true hin, if_true]
        exact hS (fun _ _ h => absurd hin h)
      · simp only [decide_eq_false hin, Bool.false_eq_true, if_false, rd47_map c hc]
        refine Ev.congr (fun k => by rw [if_pos (by omega), if_pos (by simp; omega)]) ?_
        by_cases hd : (rd_T40 b i).f0 = (holdH a c first).f1
        · simp only [hd, if_true]
          exact hT
        · simp only [hd, if_false]
          refine Ev.bind (had_ev a c first _ ha) ?_
          cases hh : hadB a c first (rd_T40 b i).f0 with
          | true => simp only [if_true]; exact hT
          | false =>
            simp only [Bool.false_eq_true, if_false]
            exact hS (fun _ _ _ h => by rw [← hadB_iff, hh] at h; cases h)
    · refine Ev.step (fun k => by rw [testamurlaw42_DevicesStale.j8, if_pos (by omega), if_pos (by omega), if_neg hf, wrap_succ i (by omega)]) ?_
      exact hS (fun _ h => absurd h hf)
theorem pureDevicesStale : testamurlaw42_DevicesStale.Pure := by
  intro a b copies first ha _ _ hb _ _ _ _
  have ha' := len_of ha
  have hb' := len_of hb
  refine Ev.rounds ?_
  refine Ev.congr (fun k => by rw [testamurlaw42_DevicesStale.f]) ?_
  refine Ev.bind sane_ev ?_
  simp only [if_true]
  have h3 : ∀ x y, Ev (fun k => testamurlaw42_DevicesStale.j3 k a b first x y true) true := fun x y => Ev.step (fun k => by rw [testamurlaw42_DevicesStale.j3, if_pos rfl]) (Ev.now _)
  have h2 : Ev (fun k => testamurlaw42_DevicesStale.j2 k a b copies first) true := by
    refine Ev.step (fun k => by rw [testamurlaw42_DevicesStale.j2]) ?_
    simp only [devices_Merge.f, devices_State.f, Option.bind_some]
    by_cases hm : (mergeV a b).2 = 0
    · obtain ⟨va, vb, hag, vm, hme⟩ := mergeV_zero hm
      simp only [if_pos hm]
      by_cases hs : (stateV a copies first).2 = 0
      · obtain ⟨_, c0, c1, hf, hz⟩ := stateV_zero hs
        simp only [if_pos hs]
        obtain ⟨n, rfl⟩ := Int.eq_ofNat_of_zero_le c0
        have hz2 : stateV (mergeV a b).1 n first = ((List.range n).map fun c : Nat => holdH (merged a b) c first, 0) := by
          rw [hme, stateV, if_pos (chkD_iff.2 vm), if_pos (by simp [inI]; omega), if_pos hf]
          rfl
        rw [hz2, hz]
        refine Ev.step (fun k => by rw [testamurlaw42_DevicesStale.j3, if_neg (by simp)]) ?_
        refine Ev.step (fun k => by rw [testamurlaw42_DevicesStale.j4]) ?_
        have key : ∀ m c, n - c = m → c ≤ n → Ev (fun k => testamurlaw42_DevicesStale.l0 k a b first ((List.range n).map fun c : Nat => holdH a c first) ((List.range n).map fun c : Nat => holdH (merged a b) c first) (n : Int) (c : Int)) true := by
          intro m
          induction m with
          | zero => intro c h hc; exact Ev.step (fun k => by rw [testamurlaw42_DevicesStale.l0, if_neg (by omega)]) (Ev.now _)
          | succ m ih =>
            intro c h hc
            refine Ev.step (fun k => by rw [testamurlaw42_DevicesStale.l0, if_pos (by omega)]) ?_
            refine Ev.step (fun k => by rw [testamurlaw42_DevicesStale.j6]) ?_
            exact stale_l1 a b first n c va.srt vb.srt ha' hb' (by omega) (by omega) (ih (c + 1) (by omega) (by omega)) _ 0 false rfl (by omega) (fun _ o ho => by simp at ho)
        have := key _ 0 rfl (by omega)
        simpa using this
      · simp only [if_neg hs]
        exact h3 _ _
    · simp only [if_neg hm]
      exact h3 _ _
  have h1 : ∀ x, Ev (fun k => testamurlaw42_DevicesStale.j1 k a b copies first x) true := by
    intro x
    cases x with
    | true => exact Ev.step (fun k => by rw [testamurlaw42_DevicesStale.j1, if_pos rfl]) (Ev.now _)
    | false => exact Ev.step (fun k => by rw [testamurlaw42_DevicesStale.j1, if_neg (by simp)]) h2
  refine Ev.step (fun k => by rw [testamurlaw42_DevicesStale.j0, few_ev, Option.bind_some]) ?_
  split
  · simp only [few_ev, Option.bind_some]
    split
    · exact h1 _
    · exact h1 _
  · exact h1 _

end Go.Proofs.Ytkclehmjkncmnaa.P
