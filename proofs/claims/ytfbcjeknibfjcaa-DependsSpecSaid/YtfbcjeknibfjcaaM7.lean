/- Plain laws of chapter 13: the reference's checks answer as the program's. -/
import Derived.Test.YtfbcjeknibfjcaaP8
import Derived.Test.YtfbcjeknibfjcaaM1
namespace Go.Proofs.Ytfbcjeknibfjcaa.P
open Go.RowKit Go.Proofs.YtfbcjeknibfjcaaW.PrintWords Go.Proofs.YtfbcjeknibfjcaaW.PrintLast Go.Proofs.YtfbcjeknibfjcaaW.PrintMore
set_option linter.unusedVariables false

theorem has_ev (l : List Int) (v : Int) (hm : l.length ≤ 9223372036854775807) : Ev (fun k => testamurref13_Has.f k l v) (l.any (· == v)) := by
 have : ∀ m i, l.length - i = m → i ≤ l.length → Ev (fun k => testamurref13_Has.l0 k l v (i : Int)) ((l.drop i).any (· == v)) := by
  intro m
  induction m with
  | zero =>
   intro i h hi
   rw [List.drop_of_length_le (by omega), List.any_nil]
   exact Ev.step (fun k => by rw [testamurref13_Has.l0, if_neg (by omega)]) (Ev.now _)
  | succ m ih =>
   intro i h hi
   have hlt : i < l.length := by omega
   rw [List.drop_eq_getElem_cons hlt, List.any_cons, ← rd_at3 l i hlt]
   by_cases q : rd l i = v
   ·rw [show (rd l i == v) = true by simp [q], Bool.true_or]
    exact Ev.step (fun k => by rw [testamurref13_Has.l0, if_pos (by omega), if_pos (by omega), if_pos q]) (Ev.now _)
   ·rw [show (rd l i == v) = false by simp [q], Bool.false_or]
    exact Ev.step (fun k => by rw [testamurref13_Has.l0, if_pos (by omega), if_pos (by omega), if_neg q, wrap_succ i (by omega)]) (ih (i + 1) (by omega) (by omega))
 have h := this _ 0 rfl (by omega)
 rwa [List.drop_zero] at h
theorem range_all_succ (p : Nat → Bool) (i m : Nat) (h : i < m) : (List.range' i (m - i)).all p = (p i && (List.range' (i + 1) (m - (i + 1))).all p) := by
 rw [show m - i = (m - (i + 1)) + 1 by omega, List.range'_succ, List.all_cons]
theorem valid_ev (n : Nat) (l0 : List ByteArray) (a1 : ByteArray) (l : List Int) (tx : Int) (hm : l.length ≤ 9223372036854775807) : Ev (fun k => testamurref13_Valid.f k (n : Int) l0 a1 l tx) (vld n l tx) := by
 have : ∀ m i, l.length - i = m → i ≤ l.length → Ev (fun k => testamurref13_Valid.l0 k (n : Int) (i : Int) l0 a1 l tx) ((List.range' i (l.length - i)).all (fromAt n l) && (decide (0 < l.length) && (!outF n tx && !l.any (· == tx)))) := by
  intro m
  induction m with
  | zero =>
   intro i h hi
   rw [h, List.range'_zero, List.all_nil, Bool.true_and]
   refine Ev.step (fun k => by rw [testamurref13_Valid.l0, if_neg (by omega)]) ?_
   by_cases q : 0 < l.length
   ·by_cases q1 : tx ≥ 0
    ·by_cases q2 : tx < (n : Int)
     ·have e : outF n tx = false := by rw [outF_eq]; simp [q2]; omega
      rw [e]
      simp only [q, decide_true, Bool.not_false, Bool.true_and]
      refine Ev.congr (f := fun k => (testamurref13_Has.f k l tx).bind fun t136 => some (!t136)) (fun k => by rw [if_pos (by omega), if_pos q1, if_pos q2]) ?_
      exact Ev.bind (has_ev l tx hm) (Ev.now _)
     ·have e : outF n tx = true := by rw [outF_eq]; simp [q2]
      rw [e]
      simp only [Bool.not_true, Bool.false_and, Bool.and_false]
      exact Ev.congr (fun k => by rw [if_pos (by omega), if_pos q1, if_neg q2]) (Ev.now _)
    ·have e : outF n tx = true := by rw [outF_eq]; simp; omega
     rw [e]
     simp only [Bool.not_true, Bool.false_and, Bool.and_false]
     exact Ev.congr (fun k => by rw [if_pos (by omega), if_neg q1]) (Ev.now _)
   ·simp only [q, decide_false, Bool.false_and]
    exact Ev.congr (fun k => by rw [if_neg (by omega)]) (Ev.now _)
  | succ m ih =>
   intro i h hi
   have hlt : i < l.length := by omega
   rw [range_all_succ _ _ _ hlt]
   by_cases q : rd l i < 0
   ·have e : fromAt n l i = false := by rw [fromAt, outF_eq]; simp; omega
    rw [e, Bool.false_and, Bool.false_and]
    exact Ev.step (fun k => by rw [testamurref13_Valid.l0, if_pos (by omega), if_pos (by omega), if_pos q]) (Ev.now _)
   ·by_cases q2 : rd l i ≥ (n : Int)
    ·have e : fromAt n l i = false := by rw [fromAt, outF_eq]; simp; omega
     rw [e, Bool.false_and, Bool.false_and]
     exact Ev.step (fun k => by rw [testamurref13_Valid.l0, if_pos (by omega), if_pos (by omega), if_neg q, if_pos q2]) (Ev.now _)
    ·have e : outF n (rd l i) = false := by rw [outF_eq]; simp; omega
     have hh := has_ev (l.take i) (rd l i) (by simp; omega)
     refine Ev.step (f := fun k => (testamurref13_Has.f k (l.take i) (rd l i)).bind fun t135 => if t135 = true then some false else testamurref13_Valid.l0 k (n : Int) ((i + 1 : Nat) : Int) l0 a1 l tx) (fun k => by rw [testamurref13_Valid.l0, if_pos (by omega), if_pos (by omega), if_neg q, if_neg q2, if_pos (by omega), wrap_succ i (by omega)]; rfl) ?_
     refine Ev.bind hh ?_
     rw [fromAt, e]
     cases hq : (l.take i).any (· == rd l i)
     ·simp only [Bool.false_eq_true, if_false, Bool.not_false, Bool.true_and, Bool.and_self]
      exact ih (i + 1) (by omega) (by omega)
     ·simp only [if_true, Bool.not_true, Bool.and_false, Bool.false_and]
      exact Ev.now _
 have h := this _ 0 rfl (by omega)
 rw [Nat.sub_zero, ← List.range_eq_range'] at h
 exact h
theorem rcheck_ev (a b : ByteArray) (c d : Int) (l4 : List S97) (ds : List S29) (hb : Bd ds) : Ev (fun k => testamurref13_Check.f k a b c d l4 ds) (if chk l4.length ds = true then 0 else 130) := by
 have hl : ∀ m i, ds.length - i = m → i ≤ ds.length → Ev (fun k => testamurref13_Check.l0 k (i : Int) a b c d l4 ds) (if (ds.drop i).any (fun d => !vld l4.length d.f2 d.f3) = true then 130 else 0) := by
  intro m
  induction m with
  | zero =>
   intro i h hi
   rw [List.drop_of_length_le (by omega), List.any_nil, if_neg (by simp)]
   exact Ev.step (fun k => by rw [testamurref13_Check.l0, if_neg (by omega)]) (Ev.now _)
  | succ m ih =>
   intro i h hi
   have hlt : i < ds.length := by omega
   rw [List.drop_eq_getElem_cons hlt, List.any_cons, ← rd_at29 ds i hlt]
   refine Ev.step (f := fun k => (testamurref13_Valid.f k (l4.length : Int) (rd_T29 ds i).f0 (rd_T29 ds i).f1 (rd_T29 ds i).f2 (rd_T29 ds i).f3).bind fun t139 => if t139 = true then testamurref13_Check.l0 k ((i + 1 : Nat) : Int) a b c d l4 ds else some 130) (fun k => by rw [testamurref13_Check.l0, if_pos (by omega), if_pos (by omega), wrap_succ i (by have := hb.1; omega)]) ?_
   refine Ev.bind (valid_ev l4.length _ _ _ _ (hb.at i hlt)) ?_
   cases vld l4.length (rd_T29 ds i).f2 (rd_T29 ds i).f3
   ·simp only [Bool.false_eq_true, if_false, Bool.not_false, Bool.true_or, if_true]
    exact Ev.now _
   ·simp only [if_true, Bool.not_true, Bool.false_or]
    exact ih (i + 1) (by omega) (by omega)
 have h0 := hl _ 0 rfl (by omega)
 rw [List.drop_zero] at h0
 have hj : Ev (fun k => testamurref13_Check.j0 k true a b c d l4 ds) 130 := Ev.step (fun k => by rw [testamurref13_Check.j0, if_pos rfl]) (Ev.now _)
 by_cases q : (l4.length : Int) < 1
 ·rw [if_neg (by simp [chk]; intro; omega)]
  exact Ev.congr (fun k => by rw [testamurref13_Check.f, if_pos q]) hj
 ·by_cases q2 : (l4.length : Int) > 12
  ·rw [if_neg (by simp [chk]; intro; omega)]
   exact Ev.congr (fun k => by rw [testamurref13_Check.f, if_neg q, if_pos q2]) hj
  ·by_cases q3 : (ds.length : Int) > 12
   ·rw [if_neg (by simp [chk]; intros; omega)]
    exact Ev.congr (fun k => by rw [testamurref13_Check.f, if_neg q, if_neg q2, decide_eq_true q3]) hj
   ·have e : chk l4.length ds = !(ds.any fun d => !vld l4.length d.f2 d.f3) := by
     rw [chk, decide_eq_true (by omega : 1 ≤ l4.length), decide_eq_true (by omega : l4.length ≤ 12), decide_eq_true (by omega : ds.length ≤ 12)]
     simp
    refine Ev.congr (fun k => by rw [testamurref13_Check.f, if_neg q, if_neg q2, decide_eq_false q3]) (Ev.step (fun k => by rw [testamurref13_Check.j0, if_neg (by simp)]) ?_)
    rw [e]
    cases hq : ds.any fun d => !vld l4.length d.f2 d.f3
    ·rw [hq] at h0
     exact h0
    ·rw [hq] at h0
     exact h0
end Go.Proofs.Ytfbcjeknibfjcaa.P
