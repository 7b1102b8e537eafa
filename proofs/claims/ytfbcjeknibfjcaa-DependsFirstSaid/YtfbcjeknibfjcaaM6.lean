/- Plain laws of chapter 13: lists that are equal; has, subset. -/
import Derived.Test.YtfbcjeknibfjcaaP13
import Derived.Test.YtfbcjeknibfjcaaP20
import Derived.Test.YtfbcjeknibfjcaaM4
import Derived.Test.YtfbcjeknibfjcaaT
namespace Go.Proofs.Ytfbcjeknibfjcaa.P
open Go.RowKit Go.Proofs.YtfbcjeknibfjcaaW.PrintWords Go.Proofs.YtfbcjeknibfjcaaW.PrintLast Go.Proofs.YtfbcjeknibfjcaaW.PrintMore
set_option linter.unusedVariables false
theorem bd_of {x : S25} (hx : G25 x) : Bd x.f5 := ⟨by have := hx.2.2.2.2.2.1; simpa [maxLen] using this, fun d hd => by have := (hx.2.2.2.2.2.2 d hd).2.2.1.1; simpa [maxLen] using this⟩
theorem same_ev (l : List Int) (hm : l.length ≤ 9223372036854775807) : Ev (fun k => testamurref13_SameInts.f k l l) true := by
  have : ∀ m i, l.length - i = m → i ≤ l.length → Ev (fun k => testamurref13_SameInts.l0 k l l (i : Int)) true := by
    intro m
    induction m with
    | zero => intro i h hi; exact Ev.step (fun k => by rw [testamurref13_SameInts.l0, if_neg (by omega)]) (Ev.now _)
    | succ m ih => intro i h hi; exact Ev.step (fun k => by rw [testamurref13_SameInts.l0, if_pos (by omega), if_pos (by omega), if_pos (by omega), if_pos rfl, wrap_succ i (by omega)]) (ih (i + 1) (by omega) (by omega))
  exact Ev.congr (fun k => by rw [testamurref13_SameInts.f, if_pos rfl]; rfl) (this _ 0 rfl (by omega))
theorem lhas_ev (l : List Int) (v : Int) (hm : l.length ≤ 9223372036854775807) : Ev (fun k => testamurlaw13_has.f k l v) (l.any (· == v)) := by
  have : ∀ m i, l.length - i = m → i ≤ l.length → Ev (fun k => testamurlaw13_has.l0 k v l (l.length : Int) (i : Int)) ((l.drop i).any (· == v)) := by
    intro m
    induction m with
    | zero =>
      intro i h hi
      rw [List.drop_of_length_le (by omega), List.any_nil]
      exact Ev.step (fun k => by rw [testamurlaw13_has.l0, if_neg (by omega)]) (Ev.now _)
    | succ m ih =>
      intro i h hi
      have hlt : i < l.length := by omega
      rw [List.drop_eq_getElem_cons hlt, List.any_cons, ← rd_at3 l i hlt]
      by_cases q : rd l i = v
      · rw [show (rd l i == v) = true by simp [q], Bool.true_or]
        exact Ev.step (fun k => by rw [testamurlaw13_has.l0, if_pos (by omega), if_pos (by omega), if_pos (by omega), if_pos q]) (Ev.now _)
      · rw [show (rd l i == v) = false by simp [q], Bool.false_or]
        exact Ev.step (fun k => by rw [testamurlaw13_has.l0, if_pos (by omega), if_pos (by omega), if_pos (by omega), if_neg q, wrap_succ i (by omega)]) (ih (i + 1) (by omega) (by omega))
  have h := this _ 0 rfl (by omega)
  rwa [List.drop_zero] at h
theorem subset_ev (a b : List Int) (ha : a.length ≤ 9223372036854775807) (hb : b.length ≤ 9223372036854775807) : Ev (fun k => testamurlaw13_subset.f k a b) (a.all fun x => b.any (· == x)) := by
  have : ∀ m i, a.length - i = m → i ≤ a.length → Ev (fun k => testamurlaw13_subset.l0 k b a (a.length : Int) (i : Int)) ((a.drop i).all fun x => b.any (· == x)) := by
    intro m
    induction m with
    | zero =>
      intro i h hi
      rw [List.drop_of_length_le (by omega), List.all_nil]
      exact Ev.step (fun k => by rw [testamurlaw13_subset.l0, if_neg (by omega)]) (Ev.now _)
    | succ m ih =>
      intro i h hi
      have hlt : i < a.length := by omega
      rw [List.drop_eq_getElem_cons hlt, List.all_cons, ← rd_at3 a i hlt]
      refine Ev.step (f := fun k => (testamurlaw13_has.f k b (rd a i)).bind fun t236 => if t236 = true then testamurlaw13_subset.l0 k b a (a.length : Int) ((i + 1 : Nat) : Int) else some false) (fun k => by rw [testamurlaw13_subset.l0, if_pos (by omega), if_pos (by omega), if_pos (by omega), wrap_succ i (by omega)]) ?_
      refine Ev.bind (lhas_ev b (rd a i) hb) ?_
      cases b.any (· == rd a i)
      · simp only [Bool.false_eq_true, if_false, Bool.false_and]
        exact Ev.now _
      · simp only [if_true, Bool.true_and]
        exact ih (i + 1) (by omega) (by omega)
  have h := this _ 0 rfl (by omega)
  rwa [List.drop_zero] at h
theorem any_iff {l : List Int} {v : Int} : l.any (· == v) = true ↔ v ∈ l := by
  rw [List.any_eq_true]
  constructor
  · rintro ⟨x, hx, h⟩
    obtain rfl : x = v := by simpa using h
    exact hx
  · exact fun h => ⟨v, h, by simp⟩
theorem subset_iff {a b : List Int} : (a.all fun x => b.any (· == x)) = true ↔ ∀ x ∈ a, x ∈ b := by
  rw [List.all_eq_true]
  exact forall_congr' fun x => forall_congr' fun _ => any_iff
theorem closL_len (n : Nat) (ds : List S29) (l : List Int) : (closL n ds l).length ≤ n := by
  unfold closL
  rw [fl_eq]
  exact flF_len _ _ _
theorem mem_closL {n : Nat} {ds : List S29} {l : List Int} {f : Int} : f ∈ closL n ds l ↔ 0 ≤ f ∧ f < n ∧ Cl ds (· ∈ l) f := by
  unfold closL
  rw [mem_fl]
  simp only [decide_eq_true_eq]
theorem closV_len {n : Nat} {ds : List S29} {l : List Int} : (closV n ds l).1.length ≤ 12 := by
  unfold closV
  split
  · rename_i h
    split
    · exact Nat.le_trans (closL_len _ _ _) (chk_n h).1
    · exact Nat.zero_le _
  · exact Nat.zero_le _
end Go.Proofs.Ytfbcjeknibfjcaa.P
