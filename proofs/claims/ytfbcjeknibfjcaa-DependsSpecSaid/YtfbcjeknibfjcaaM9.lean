/- Plain laws of chapter 13: lists that are equal; has, subset. -/
import Derived.Test.YtfbcjeknibfjcaaP13
import Derived.Test.YtfbcjeknibfjcaaM4
import Derived.Test.YtfbcjeknibfjcaaT
namespace Go.Proofs.Ytfbcjeknibfjcaa.P
open Go.RowKit Go.Proofs.YtfbcjeknibfjcaaW.PrintWords Go.Proofs.YtfbcjeknibfjcaaW.PrintLast Go.Proofs.YtfbcjeknibfjcaaW.PrintMore
set_option linter.unusedVariables false
theorem bd_of {x : S25} (hx : G25 x) : Bd x.f5 := ⟨by have := hx.2.2.2.2.2.1; simpa [maxLen] using this, fun d hd => by have := (hx.2.2.2.2.2.2 d hd).2.2.1.1; simpa [maxLen] using this⟩
theorem same_ev (l : List Int) (hm : l.length ≤ 9223372036854775807) : Ev (fun k => testamurref13_SameInts.f k l l) true := by
 have : ∀ m i, l.length - i = m → i ≤ l.length → Ev (fun k => testamurref13_SameInts.l0 k l l (i : Int)) true := by
  intro m
  induction m with
  | zero => intro i h hi; exact Ev.step (fun k => by rw [testamurref13_SameInts.l0, if_neg (by omega)]) (Ev.now _)
  | succ m ih => intro i h hi; exact Ev.step (fun k => by rw [testamurref13_SameInts.l0, if_pos (by omega), if_pos (by omega), if_pos (by omega), if_pos rfl, wrap_succ i (by omega)]) (ih (i + 1) (by omega) (by omega))
 exact Ev.congr (fun k => by rw [testamurref13_SameInts.f, if_pos rfl]; rfl) (this _ 0 rfl (by omega))
theorem closL_len (n : Nat) (ds : List S29) (l : List Int) : (closL n ds l).length ≤ n := by
 unfold closL
 rw [fl_eq]
 exact flF_len _ _ _
theorem mem_closL {n : Nat} {ds : List S29} {l : List Int} {f : Int} : f ∈ closL n ds l ↔ 0 ≤ f ∧ f < n ∧ Cl ds (· ∈ l) f := by
 unfold closL
 rw [mem_fl]
 simp only [decide_eq_true_eq]
theorem closV_len {n : Nat} {ds : List S29} {l : List Int} : (closV n ds l).1.length ≤ 12 := by
 unfold closV
 split
 ·rename_i h
  split
  ·exact Nat.le_trans (closL_len _ _ _) (chk_n h).1
  ·exact Nat.zero_le _
 ·exact Nat.zero_le _
end Go.Proofs.Ytfbcjeknibfjcaa.P
