/- Plain laws of chapter 13: sizes; bounds. -/
import Derived.Test.YtfbcjeknibfjcaaPA
import Derived.Test.YtfbcjeknibfjcaaGB
namespace Go.Proofs.Ytfbcjeknibfjcaa.P
open Go.RowKit Go.Proofs.YtfbcjeknibfjcaaW.PrintWords Go.Proofs.YtfbcjeknibfjcaaW.PrintLast Go.Proofs.YtfbcjeknibfjcaaW.PrintMore
set_option linter.unusedVariables false

theorem wrap_succ (i : Nat) (h : i < 9223372036854775807) : wrap64 ((i : Int) + 1) = ((i + 1 : Nat) : Int) := by rw [wrap_id (by omega) (by omega)]; rfl
theorem few_ev (a b : ByteArray) (c d : Int) (l4 : List S97) (ds : List S29) (hm : ds.length ≤ 9223372036854775807) : ∃ r, Ev (fun k => testamurref13_Few.f k a b c d l4 ds) r := by
  have : ∀ m i, ds.length - i = m → i ≤ ds.length → ∃ r, Ev (fun k => testamurref13_Few.l0 k (i : Int) a b c d l4 ds) r := by
    intro m
    induction m with
    | zero =>
      intro i h hi
      by_cases q : (l4.length : Int) ≤ 20
      · exact ⟨decide ((ds.length : Int) ≤ 20), Ev.step (fun k => by rw [testamurref13_Few.l0, if_neg (by omega), if_pos q]) (Ev.now _)⟩
      · exact ⟨false, Ev.step (fun k => by rw [testamurref13_Few.l0, if_neg (by omega), if_neg q]) (Ev.now _)⟩
    | succ m ih =>
      intro i h hi
      obtain ⟨r, hr⟩ := ih (i + 1) (by omega) (by omega)
      by_cases q : (((rd_T29 ds i).f2).length : Int) > 20
      · exact ⟨false, Ev.step (fun k => by rw [testamurref13_Few.l0, if_pos (by omega), if_pos (by omega), if_pos q]) (Ev.now _)⟩
      · exact ⟨r, Ev.step (fun k => by rw [testamurref13_Few.l0, if_pos (by omega), if_pos (by omega), if_neg q, wrap_succ i (by omega)]) hr⟩
  exact this _ 0 rfl (by omega)
theorem outF_eq (n : Nat) (f : Int) : outF n f = !(decide (0 ≤ f) && decide (f < (n : Int))) := by
  unfold outF
  by_cases h : 0 ≤ f
  · by_cases g : f < (n : Int)
    · simp [h, g, show ¬ f < 0 by omega]
    · simp [h, g, show ¬ f < 0 by omega]; omega
  · simp [h, show f < 0 by omega]
/-- Where a list of dependencies stands within bounds, so do those of each. -/
def Bd (ds : List S29) : Prop := ds.length ≤ 9223372036854775807 ∧ ∀ d ∈ ds, d.f2.length ≤ 9223372036854775807
theorem Bd.at {ds : List S29} (h : Bd ds) (i : Nat) (hi : i < ds.length) : (rd_T29 ds i).f2.length ≤ 9223372036854775807 := by rw [rd_at29 ds i hi]; exact h.2 _ (List.getElem_mem _)
def sr (l : List S49) (ds : List S29) (ps : List (Nat × Nat)) : Option (Nat × Nat × Nat) := ps.findSome? fun p => (firstB l ds p).map fun k => (p.1, p.2, k)
def tup (o : Option (Nat × Nat × Nat)) : Int × Int × Int × Bool × Int := match o with
  | some (i, j, k) => (i, j, k, true, 0)
  | none => (0, 0, 0, false, 0)
end Go.Proofs.Ytfbcjeknibfjcaa.P
