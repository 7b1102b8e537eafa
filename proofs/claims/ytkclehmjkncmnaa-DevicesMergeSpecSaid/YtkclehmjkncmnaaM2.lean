/- Plain laws of chapter 42: the reference's Has, clash, insert. -/
import Derived.Test.YtkclehmjkncmnaaM5
import Derived.Test.YtkclehmjkncmnaaP17
import Derived.Test.YtkclehmjkncmnaaP20
import Derived.Test.YtkclehmjkncmnaaPA
namespace Go.Proofs.Ytkclehmjkncmnaa.P
open Go.RowKit Go.Proofs.YtkclehmjkncmnaaW.PrintWords Go.Proofs.YtkclehmjkncmnaaW.PrintLast Go.Proofs.YtkclehmjkncmnaaW.PrintMore
set_option linter.unusedVariables false

theorem rclash_ev (l : List S40) (o : S40) (hm : l.length ≤ 9223372036854775807) : Ev (fun k => testamurref42_clash.f k l o.f0 o.f1 o.f2 o.f3 o.f4 o.f5) (l.any (sameKey o)) := by
 have : ∀ m i, l.length - i = m → i ≤ l.length → Ev (fun k => testamurref42_clash.l0 k l (i : Int) o.f0 o.f1 o.f2 o.f3 o.f4 o.f5) ((l.drop i).any (sameKey o)) := by
  intro m
  induction m with
  | zero =>
   intro i h hi
   rw [List.drop_of_length_le (by omega)]
   exact Ev.step (f := fun _ => some false) (fun k => by rw [testamurref42_clash.l0, if_neg (by omega)]) (Ev.now _)
  | succ m ih =>
   intro i h hi
   have hlt : i < l.length := by omega
   rw [List.drop_eq_getElem_cons hlt, ← rd_at40 l i hlt, List.any_cons]
   by_cases q : (rd_T40 l i).f0 = o.f0
   ·by_cases q1 : (rd_T40 l i).f1 = o.f1
    ·rw [key_iff.2 ⟨q.symm, q1.symm⟩, Bool.true_or]
     exact Ev.step (fun k => by rw [testamurref42_clash.l0, if_pos (by omega), if_pos (by omega), if_pos q, if_pos q1]) (Ev.now _)
    ·rw [show sameKey o (rd_T40 l i) = false by rw [← Bool.not_eq_true, key_iff]; exact fun h => q1 h.2.symm, Bool.false_or]
     exact Ev.step (fun k => by rw [testamurref42_clash.l0, if_pos (by omega), if_pos (by omega), if_pos q, if_neg q1, wrap_succ i (by omega)]) (ih (i + 1) (by omega) (by omega))
   ·rw [show sameKey o (rd_T40 l i) = false by rw [← Bool.not_eq_true, key_iff]; exact fun h => q h.1.symm, Bool.false_or]
    exact Ev.step (fun k => by rw [testamurref42_clash.l0, if_pos (by omega), if_pos (by omega), if_neg q, wrap_succ i (by omega)]) (ih (i + 1) (by omega) (by omega))
 have h := this _ 0 rfl (by omega)
 rwa [List.drop_zero] at h
theorem same_ev (l : List S40) (hm : l.length ≤ 9223372036854775807) : Ev (fun k => testamurref42_Same.f k l l) true := by
 have : ∀ m i, l.length - i = m → i ≤ l.length → Ev (fun k => testamurref42_Same.l0 k l l (i : Int)) true := by
  intro m
  induction m with
  | zero => intro i h hi; exact Ev.step (fun k => by rw [testamurref42_Same.l0, if_neg (by omega)]) (Ev.now _)
  | succ m ih => intro i h hi; exact Ev.step (fun k => by rw [testamurref42_Same.l0, if_pos (by omega), if_pos (by omega), if_pos (by omega), if_neg (by simp), wrap_succ i (by omega)]) (ih (i + 1) (by omega) (by omega))
 exact Ev.congr (fun k => by rw [testamurref42_Same.f, if_pos rfl]; rfl) (this _ 0 rfl (by omega))
/-- Where an operation is put. -/
theorem ins_at {l : List S40} {o : S40} {i : Nat} (hl : Srt l) (ho : o ∉ l) (hi : i ≤ l.length) (hb : ∀ j (hj : j < i), cmpO (l[j]'(by omega)) o < 0) (ha : ∀ h : i < l.length, ¬ cmpO l[i] o < 0) : l.take i ++ [o] ++ l.drop i = merged l [o] := by
 have hp := List.pairwise_iff_getElem.1 hl
 refine srt_ext ?_ (merged_srt hl (by simp [Srt])) fun x => ?_
 ·have h1 : Srt (l.take i) := List.Pairwise.sublist (List.take_sublist i l) hl
  have h2 : Srt (l.drop i) := List.Pairwise.sublist (List.drop_sublist i l) hl
  have h3 : ∀ x ∈ l.drop i, cmpO o x < 0 := by
   intro x hx
   obtain ⟨k, hk, rfl⟩ := List.getElem_of_mem hx
   rw [List.getElem_drop]
   have hk' : i + k < l.length := by simp at hk; omega
   have hge : ¬ cmpO l[i + k] o < 0 := by
    rcases Nat.eq_zero_or_pos k with rfl | h0
    ·exact ha (by omega)
    ·intro hlt
     exact ha (by omega) (cmpO_trans (hp i (i + k) (by omega) hk' (by omega)) hlt)
   refine cmpO_gt hge (fun e => ho ?_)
   rw [← cmpO_eq e]
   exact List.getElem_mem _
  have h4 : ∀ x ∈ l.take i, cmpO x o < 0 := by
   intro x hx
   obtain ⟨k, hk, rfl⟩ := List.mem_take_iff_getElem.1 hx
   exact hb k (by omega)
  rw [Srt, List.append_assoc, List.pairwise_append]
  refine ⟨h1, ?_, fun x hx y hy => ?_⟩
  ·rw [List.singleton_append, List.pairwise_cons]
   exact ⟨h3, h2⟩
  ·rw [List.singleton_append, List.mem_cons] at hy
   rcases hy with rfl | hy
   ·exact h4 x hx
   ·exact cmpO_trans (h4 x hx) (h3 y hy)
 ·rw [merged_mem, List.mem_append, List.mem_append]
  conv => rhs; rw [← List.take_append_drop i l, List.mem_append]
  constructor
  ·rintro ((h | h) | h)
   ·exact .inl (.inl h)
   ·exact .inr h
   ·exact .inl (.inr h)
  ·rintro ((h | h) | h)
   ·exact .inl (.inl h)
   ·exact .inr h
   ·exact .inl (.inr h)
theorem rinsert_ev (l : List S40) (o : S40) (hl : Srt l) (ho : o ∉ l) (hm : l.length ≤ 100000) : Ev (fun k => testamurref42_insert.f k l o.f0 o.f1 o.f2 o.f3 o.f4 o.f5) (merged l [o]) := by
 have : ∀ m i, l.length - i = m → i ≤ l.length → (∀ j (hj : j < i) (h2 : j < l.length), cmpO l[j] o < 0) → Ev (fun k => testamurref42_insert.l0 k l (i : Int) o.f0 o.f1 o.f2 o.f3 o.f4 o.f5) (merged l [o]) := by
  intro m
  induction m with
  | zero =>
   intro i h hi hb
   rw [← ins_at hl ho hi (fun j hj => hb j hj (by omega)) (fun h2 => by omega)]
   refine Ev.step (f := fun _ => some (l.take i ++ [o] ++ l.drop i)) (fun k => ?_) (Ev.now _)
   rw [testamurref42_insert.l0, if_neg (by omega), Option.bind_some, if_pos (by omega), if_pos (by omega), Option.bind_some, if_pos (by simp; omega), Option.bind_some, Option.bind_some, if_pos (by simp; omega), Option.bind_some, Option.bind_some, if_pos (by simp; omega), Int.toNat_natCast]
   rfl
  | succ m ih =>
   intro i h hi hb
   have hlt : i < l.length := by omega
   refine Ev.step (f := fun k => (testamurref42_Before.f k (rd_T40 l i).f0 (rd_T40 l i).f1 (rd_T40 l i).f2 (rd_T40 l i).f3 (rd_T40 l i).f4 (rd_T40 l i).f5 o.f0 o.f1 o.f2 o.f3 o.f4 o.f5).bind fun t => if t = true then testamurref42_insert.l0 k l ((i + 1 : Nat) : Int) o.f0 o.f1 o.f2 o.f3 o.f4 o.f5 else some (l.take i ++ [o] ++ l.drop i)) (fun k => ?_) ?_
   ·rw [testamurref42_insert.l0, if_pos (by omega), if_pos (by omega), wrap_succ i (by omega)]
    congr 1
    funext t
    congr 1
    rw [Option.bind_some, if_pos (by omega), Option.bind_some, if_pos (by simp; omega), Option.bind_some, Option.bind_some, if_pos (by simp; omega), Option.bind_some, Option.bind_some, if_pos (by simp; omega), Int.toNat_natCast]
    rfl
   ·refine Ev.bind (before_ev _ _) ?_
    rw [rd_at40 l i hlt]
    by_cases q : cmpO l[i] o < 0
    ·simp only [decide_eq_true q, if_true]
     exact ih (i + 1) (by omega) (by omega) (fun j hj h2 => by
      rcases Nat.lt_or_ge j i with h3 | h3
      ·exact hb j h3 h2
      ·obtain rfl : j = i := by omega
       exact q)
    ·simp only [decide_eq_false q, Bool.false_eq_true, if_false]
     rw [← ins_at hl ho hi (fun j hj => hb j hj (by omega)) (fun h2 => q)]
     exact Ev.now _
 exact this _ 0 rfl (by omega) (fun j hj => absurd hj (by omega))
theorem len_ins {l : List S40} {o : S40} (hl : Srt l) (ho : o ∉ l) : (merged l [o]).length = l.length + 1 := by
 have h1 := merged_len (l.length + 1) l [o]
 rw [show both (l.length + 1) l [o] = merged l [o] from rfl] at h1
 have : (merged l [o]).Nodup := by
  refine List.Pairwise.imp ?_ (merged_srt hl (by simp [Srt]))
  rintro a b h rfl
  exact cmpO_irr h
 have h2 : (o :: l).Nodup := List.nodup_cons.2 ⟨ho, List.Pairwise.imp (by rintro a b h rfl; exact cmpO_irr h) hl⟩
 have h3 : (o :: l).length ≤ (merged l [o]).length := List.Nodup.length_le_of_subset h2 (fun x hx => merged_mem.2 ((List.mem_cons.1 hx).elim (fun e => .inr (by simp [e])) .inl))
 simp at h3
 omega
theorem clash_iff {l : List S40} {o : S40} : l.any (sameKey o) = true ↔ ∃ y ∈ l, sameKey o y = true := List.any_eq_true
end Go.Proofs.Ytkclehmjkncmnaa.P
