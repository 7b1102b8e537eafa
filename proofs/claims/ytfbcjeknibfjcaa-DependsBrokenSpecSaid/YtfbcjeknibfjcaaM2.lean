/- Plain laws of chapter 13: the reference's search for instances that break a dependency finds what the program's finds. -/
import Derived.Test.YtfbcjeknibfjcaaM1
namespace Go.Proofs.Ytfbcjeknibfjcaa.P
open Go.RowKit Go.Proofs.YtfbcjeknibfjcaaW.PrintWords Go.Proofs.YtfbcjeknibfjcaaW.PrintLast
set_option linter.unusedVariables false

theorem breaks_ev (n : Nat) (a0 a1 a2 b0 b1 b2 : Int) (x y : List Int) (l0 : List ByteArray) (s1 : ByteArray) (l : List Int) (tx : Int) (hx : x.length = n) (hy : y.length = n) (hv : vld n l tx = true) (hm : l.length ≤ 9223372036854775807) :
    Ev (fun k => testamurref13_Breaks.f k a0 a1 a2 x b0 b1 b2 y l0 s1 l tx) ((!l.any fun f => rd x f != rd y f) && (rd x tx != rd y tx)) := by
  have hf := vld_from hv
  have ht := vld_to hv
  have : ∀ m i, l.length - i = m → i ≤ l.length → Ev (fun k => testamurref13_Breaks.l0 k (i : Int) a0 a1 a2 x b0 b1 b2 y l0 s1 l tx) ((!(l.drop i).any fun f => rd x f != rd y f) && (rd x tx != rd y tx)) := by
    intro m
    induction m with
    | zero =>
      intro i h hi
      rw [List.drop_of_length_le (by omega), List.any_nil, Bool.not_false, Bool.true_and]
      exact Ev.step (fun k => by rw [testamurref13_Breaks.l0, if_neg (by omega), if_pos ht.1, if_pos (by omega), if_pos (by omega)]) (Ev.now _)
    | succ m ih =>
      intro i h hi
      have hlt : i < l.length := by omega
      have hfi := hf (rd l i) (by rw [rd_at3 l i hlt]; exact List.getElem_mem _)
      rw [List.drop_eq_getElem_cons hlt, List.any_cons, ← rd_at3 l i hlt]
      by_cases q : rd x (rd l i) = rd y (rd l i)
      · rw [show (rd x (rd l i) != rd y (rd l i)) = false by simp [q], Bool.false_or]
        exact Ev.step (fun k => by rw [testamurref13_Breaks.l0, if_pos (by omega), if_pos (by omega), if_pos hfi.1, if_pos (by omega), if_pos (by omega), if_pos q, wrap_succ i (by omega)]) (ih (i + 1) (by omega) (by omega))
      · rw [show (rd x (rd l i) != rd y (rd l i)) = true by simp [q], Bool.true_or, Bool.not_true, Bool.false_and]
        exact Ev.step (fun k => by rw [testamurref13_Breaks.l0, if_pos (by omega), if_pos (by omega), if_pos hfi.1, if_pos (by omega), if_pos (by omega), if_neg q]) (Ev.now _)
  have h := this _ 0 rfl (by omega)
  rwa [List.drop_zero] at h
def sr (l : List S49) (ds : List S29) (ps : List (Nat × Nat)) : Option (Nat × Nat × Nat) := ps.findSome? fun p => (firstB l ds p).map fun k => (p.1, p.2, k)
def tup (o : Option (Nat × Nat × Nat)) : Int × Int × Int × Bool × Int := match o with
  | some (i, j, k) => (i, j, k, true, 0)
  | none => (0, 0, 0, false, 0)
theorem rbroken_ev (a b : ByteArray) (c d : Int) (l4 : List S97) (ds : List S29) (l : List S49) (hb : Bd ds) (hm : l.length ≤ 9223372036854775807) :
    Ev (fun k => testamurref13_Broken.f k a b c d l4 ds l) (brokenV l4.length ds l) := by
  refine Ev.bind (f := fun k t214 => if t214 = 0 then testamurref13_Broken.l0 k l 0 a b c d l4 ds else some (0, 0, 0, false, t214)) (rcheck_ev a b c d l4 ds hb) ?_
  cases hchk : chk l4.length ds with
  | false =>
    rw [brokenV, hchk]
    simp only [Bool.false_eq_true, if_false]
    exact Ev.now _
  | true =>
    rw [brokenV, hchk]
    simp only [if_true]
    -- the rows' lengths
    have hl0 : (Ev (fun k => testamurref13_Broken.l1 k l 0 a b c d l4 ds) (tup (search l ds)) ∨ (l.any fun x => x.f3.length != l4.length) = true) → ∀ m i, l.length - i = m → i ≤ l.length → (∀ j, j < i → (hj : j < l.length) → l[j].f3.length = l4.length) →
        Ev (fun k => testamurref13_Broken.l0 k l (i : Int) a b c d l4 ds) (if (l.any fun x => x.f3.length != l4.length) = true then (0, 0, 0, false, 130) else tup (search l ds)) := by
      intro hl1 m
      induction m with
      | zero =>
        intro i h hi hall
        have e : (l.any fun x => x.f3.length != l4.length) = false := by
          rw [List.any_eq_false]
          intro x hx
          obtain ⟨j, hj, rfl⟩ := List.getElem_of_mem hx
          simp [hall j (by omega) hj]
        rw [e] at hl1 ⊢
        simp only [Bool.false_eq_true, or_false, if_false] at hl1 ⊢
        exact Ev.step (fun k => by rw [testamurref13_Broken.l0, if_neg (by omega)]) hl1
      | succ m ih =>
        intro i h hi hall
        have hlt : i < l.length := by omega
        by_cases q : (rd_T49 l i).f3.length = l4.length
        · refine Ev.step (fun k => by rw [testamurref13_Broken.l0, if_pos (by omega), if_pos (by omega), if_pos (by omega), wrap_succ i (by omega)]) (ih (i + 1) (by omega) (by omega) ?_)
          intro j hj hj2
          rcases Nat.lt_or_ge j i with h' | h'
          · exact hall j h' hj2
          · obtain rfl : j = i := by omega
            rw [rd_at49 l j hlt] at q
            exact q
        · have e : (l.any fun x => x.f3.length != l4.length) = true := by
            rw [List.any_eq_true]
            exact ⟨l[i], List.getElem_mem _, by rw [rd_at49 l i hlt] at q; simp [q]⟩
          rw [e]
          simp only [if_true]
          exact Ev.step (fun k => by rw [testamurref13_Broken.l0, if_pos (by omega), if_pos (by omega), if_neg (by omega)]) (Ev.now _)
    have hfin := fun h => hl0 h _ 0 rfl (by omega) (fun j hj => absurd hj (by omega))
    show Ev (fun n => testamurref13_Broken.l0 n l 0 a b c d l4 ds) (if (l.any fun x => x.f3.length != l4.length) = true then ((0, 0, 0, false, 130) : Int × Int × Int × Bool × Int) else tup (search l ds))
    cases hany : l.any fun x => x.f3.length != l4.length with
    | true => have := hfin (.inr hany); rwa [hany] at this
    | false =>
      have := hfin (.inl ?_)
      · rwa [hany] at this
      have hrow := fun i (hi : i < l.length) => row_len hany i hi
      have h3 : ∀ i j, i < l.length → j < l.length → Ev (fun k => testamurref13_Broken.l2 k l (i : Int) ((j + 1 : Nat) : Int) a b c d l4 ds) (tup (sr l ds (rowP l.length i (j + 1) ++ rowsP l.length (i + 1)))) →
          ∀ m k0, ds.length - k0 = m → k0 ≤ ds.length → (∀ k, k < k0 → brkR (rowAt l i) (rowAt l j) (rd_T29 ds k) = false) →
          Ev (fun k => testamurref13_Broken.l3 k l (i : Int) (j : Int) (k0 : Int) a b c d l4 ds) (tup (sr l ds ((i, j) :: (rowP l.length i (j + 1) ++ rowsP l.length (i + 1))))) := by
        intro i j hi hj h2 m
        induction m with
        | zero =>
          intro k0 h hk hall
          have e : firstB l ds (i, j) = none := firstB_none fun k hk' => hall k (by omega)
          rw [sr, List.findSome?_cons, e]
          refine Ev.step (fun k => by rw [testamurref13_Broken.l3, if_neg (by omega), wrap_succ j (by omega)]) h2
        | succ m ih =>
          intro k0 h hk hall
          have hlt : k0 < ds.length := by omega
          refine Ev.step (f := fun k => (testamurref13_Breaks.f k (rd_T49 l i).f0 (rd_T49 l i).f1 (rd_T49 l i).f2 (rd_T49 l i).f3 (rd_T49 l j).f0 (rd_T49 l j).f1 (rd_T49 l j).f2 (rd_T49 l j).f3 (rd_T29 ds k0).f0 (rd_T29 ds k0).f1 (rd_T29 ds k0).f2 (rd_T29 ds k0).f3).bind fun t219 => if t219 = true then some ((i : Int), (j : Int), (k0 : Int), true, 0) else testamurref13_Broken.l3 k l (i : Int) (j : Int) ((k0 + 1 : Nat) : Int) a b c d l4 ds)
            (fun k => by rw [testamurref13_Broken.l3, if_pos (by omega), if_pos (by omega), if_pos (by omega), if_pos (by omega), if_pos (by omega), if_pos (by omega), wrap_succ k0 (by have := hb.1; omega)]) ?_
          refine Ev.bind (breaks_ev l4.length _ _ _ _ _ _ _ _ _ _ _ _ (hrow i hi) (hrow j hj) (chk_vld hchk k0 hlt) (hb.at k0 hlt)) ?_
          cases hbr : brkR (rowAt l i) (rowAt l j) (rd_T29 ds k0) with
          | true =>
            have e : firstB l ds (i, j) = some k0 := firstB_some hlt hall hbr
            rw [sr, List.findSome?_cons, e]
            rw [brkR, rowAt, rowAt] at hbr
            rw [hbr]
            exact Ev.now _
          | false =>
            have := ih (k0 + 1) (by omega) (by omega) (fun k hk' => by
              rcases Nat.lt_or_ge k k0 with h' | h'
              · exact hall k h'
              · obtain rfl : k = k0 := by omega
                exact hbr)
            rw [brkR, rowAt, rowAt] at hbr
            rw [hbr]
            exact this
      have h2 : ∀ i, i < l.length → Ev (fun k => testamurref13_Broken.l1 k l ((i + 1 : Nat) : Int) a b c d l4 ds) (tup (sr l ds (rowsP l.length (i + 1)))) →
          ∀ m j, l.length - j = m → j ≤ l.length → Ev (fun k => testamurref13_Broken.l2 k l (i : Int) (j : Int) a b c d l4 ds) (tup (sr l ds (rowP l.length i j ++ rowsP l.length (i + 1)))) := by
        intro i hi h1 m
        induction m with
        | zero =>
          intro j h hj
          rw [rowP_ge (by omega), List.nil_append]
          exact Ev.step (fun k => by rw [testamurref13_Broken.l2, if_neg (by omega), wrap_succ i (by omega)]) h1
        | succ m ih =>
          intro j h hj
          rw [rowP_lt (by omega), List.cons_append]
          exact Ev.step (fun k => by rw [testamurref13_Broken.l2, if_pos (by omega)]; rfl) (h3 i j hi (by omega) (ih (j + 1) (by omega) (by omega)) _ 0 rfl (by omega) (fun k hk => absurd hk (by omega)))
      have h1 : ∀ m i, l.length - i = m → i ≤ l.length → Ev (fun k => testamurref13_Broken.l1 k l (i : Int) a b c d l4 ds) (tup (sr l ds (rowsP l.length i))) := by
        intro m
        induction m with
        | zero =>
          intro i h hi
          rw [rowsP_ge (by omega)]
          exact Ev.step (f := fun _ => some (0, 0, 0, false, 0)) (fun k => by rw [testamurref13_Broken.l1, if_neg (by omega)]) (Ev.now _)
        | succ m ih =>
          intro i h hi
          rw [rowsP_lt (by omega)]
          exact Ev.step (fun k => by rw [testamurref13_Broken.l1, if_pos (by omega), wrap_succ i (by omega)]) (h2 i (by omega) (ih (i + 1) (by omega) (by omega)) _ (i + 1) rfl (by omega))
      exact h1 _ 0 rfl (by omega)
end Go.Proofs.Ytfbcjeknibfjcaa.P
