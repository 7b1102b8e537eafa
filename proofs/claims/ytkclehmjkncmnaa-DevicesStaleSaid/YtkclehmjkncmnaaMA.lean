/- Several texts in one: M1, M6. -/
import Derived.Test.YtkclehmjkncmnaaGA
/- Plain laws of chapter 42: sorted lists of operations, merged lists. -/
namespace Go.Proofs.Ytkclehmjkncmnaa.P
open Go.RowKit Go.Proofs.YtkclehmjkncmnaaW.PrintWords Go.Proofs.YtkclehmjkncmnaaW.PrintLast Go.Proofs.YtkclehmjkncmnaaW.PrintMore
set_option linter.unusedVariables false

instance : DecidableEq S40 := fun a b => if h : nums a = nums b then isTrue (by cases a; cases b; simp only [nums, List.cons.injEq] at h; simp_all) else isFalse (fun e => h (e ▸ rfl))
theorem rd_at40 (l : List S40) (i : Nat) (h : i < l.length) : rd_T40 l (i : Int) = l[i] := by simp [rd_T40, h]
theorem cmpL_tri : ∀ (a b : List Int), cmpL a b = -1 ∧ cmpL b a = 1 ∨ cmpL a b = 0 ∧ cmpL b a = 0 ∨ cmpL a b = 1 ∧ cmpL b a = -1
 | [], [] => by simp [cmpL]
 | [], _ :: _ => by simp [cmpL]
 | _ :: _, [] => by simp [cmpL]
 | x :: a, y :: b => by
  simp only [cmpL]
  have := cmpL_tri a b
  by_cases h1 : x < y
  ·simp [h1, show ¬ y < x by omega]
  ·by_cases h2 : y < x
   ·simp [h1, h2]
   ·simp [h1, h2, this]
theorem cmpL_self (a : List Int) : cmpL a a = 0 := by
 induction a with
 | nil => rfl
 | cons x a ih => simp [cmpL, ih]
theorem cmpL_eq : ∀ (a b : List Int), a.length = b.length → cmpL a b = 0 → a = b
 | [], [], _, _ => rfl
 | x :: a, y :: b, h, h2 => by
  simp only [cmpL] at h2
  by_cases h1 : x < y
  ·simp [h1] at h2
  ·by_cases h3 : y < x
   ·simp [h1, h3] at h2
   ·simp only [h1, h3, if_false] at h2
    rw [cmpL_eq a b (by simpa using h) h2, show x = y by omega]
theorem cmpL_trans : ∀ (a b c : List Int), a.length = b.length → b.length = c.length → cmpL a b < 0 → cmpL b c < 0 → cmpL a c < 0
 | [], [], [], _, _, h, _ => by simp [cmpL] at h
 | x :: a, y :: b, z :: c, h, h', h1, h2 => by
  simp only [cmpL] at h1 h2 ⊢
  have ih := cmpL_trans a b c (by simpa using h) (by simpa using h')
  by_cases a1 : x < y
  ·by_cases b1 : y < z
   ·simp [show x < z by omega]
   ·by_cases b2 : z < y
    ·simp [b1, b2] at h2
    ·simp [show x < z by omega]
  ·by_cases a2 : y < x
   ·simp [a1, a2] at h1
   ·simp only [a1, a2, if_false] at h1
    by_cases b1 : y < z
    ·simp [show x < z by omega]
    ·by_cases b2 : z < y
     ·simp [b1, b2] at h2
     ·simp only [b1, b2, if_false] at h2
      simp only [show ¬ x < z by omega, show ¬ z < x by omega, if_false]
      exact ih h1 h2
theorem cmpO_self (a : S40) : cmpO a a = 0 := cmpL_self _
theorem cmpO_eq {a b : S40} (h : cmpO a b = 0) : a = b := by
 have := cmpL_eq (nums a) (nums b) rfl h
 cases a; cases b
 simp only [nums, List.cons.injEq] at this
 simp_all
theorem cmpO_trans {a b c : S40} (h : cmpO a b < 0) (h2 : cmpO b c < 0) : cmpO a c < 0 := cmpL_trans (nums a) (nums b) (nums c) rfl rfl h h2
theorem cmpO_irr {a : S40} : ¬ cmpO a a < 0 := by rw [cmpO_self]; decide
theorem cmpO_asym {a b : S40} (h : cmpO a b < 0) : ¬ cmpO b a < 0 := fun h2 => cmpO_irr (cmpO_trans h h2)
theorem cmpO_gt {a b : S40} (h : ¬ cmpO a b < 0) (h2 : cmpO a b ≠ 0) : cmpO b a < 0 := by
 have := cmpL_tri (nums a) (nums b)
 simp only [cmpO] at *
 omega
def Srt (l : List S40) : Prop := l.Pairwise fun a b => cmpO a b < 0
theorem srt_ext : ∀ {a b : List S40}, Srt a → Srt b → (∀ o, o ∈ a ↔ o ∈ b) → a = b
 | [], [], _, _, _ => rfl
 | [], y :: b, _, _, h => absurd ((h y).2 (by simp)) (by simp)
 | x :: a, [], _, _, h => absurd ((h x).1 (by simp)) (by simp)
 | x :: a, y :: b, ha, hb, h => by
  have ha' := List.pairwise_cons.1 ha
  have hb' := List.pairwise_cons.1 hb
  have e : x = y := by
   have h1 := (h x).1 (by simp)
   have h2 := (h y).2 (by simp)
   simp only [List.mem_cons] at h1 h2
   rcases h1 with h1 | h1
   ·exact h1
   ·rcases h2 with h2 | h2
    ·exact h2.symm
    ·exact absurd (hb'.1 x h1) (cmpO_asym (ha'.1 y h2))
  subst e
  congr 1
  refine srt_ext ha'.2 hb'.2 fun o => ?_
  have := h o
  simp only [List.mem_cons] at this
  constructor
  ·intro ho
   rcases this.1 (.inr ho) with rfl | h3
   ·exact absurd (ha'.1 _ ho) cmpO_irr
   ·exact h3
  ·intro ho
   rcases this.2 (.inr ho) with rfl | h3
   ·exact absurd (hb'.1 _ ho) cmpO_irr
   ·exact h3
theorem both_mem : ∀ (k : Nat) (a b : List S40), a.length + b.length ≤ k → ∀ o, o ∈ both k a b ↔ o ∈ a ∨ o ∈ b
 | 0, a, b, h, o => by
  have h1 : a = [] := List.eq_nil_of_length_eq_zero (by omega)
  have h2 : b = [] := List.eq_nil_of_length_eq_zero (by omega)
  simp [both, h1, h2]
 | _ + 1, [], [], _, o => by simp [both]
 | k + 1, [], y :: b, h, o => by
  have := both_mem k [] b (by simp at h ⊢; omega) o
  simp [both, this]
 | k + 1, x :: a, [], h, o => by
  have := both_mem k a [] (by simp at h ⊢; omega) o
  simp [both, this]
 | k + 1, x :: a, y :: b, h, o => by
  simp only [List.length_cons] at h
  simp only [both]
  by_cases h1 : cmpO x y < 0
  ·have := both_mem k a (y :: b) (by simp; omega) o
   simp [h1, this, or_assoc]
  ·by_cases h2 : cmpO x y = 0
   ·have := both_mem k a b (by omega) o
    have e := cmpO_eq h2
    subst e
    rw [if_neg h1, if_pos h2, List.mem_cons, this, List.mem_cons, List.mem_cons]
    constructor
    ·rintro (h | h | h)
     ·exact .inl (.inl h)
     ·exact .inl (.inr h)
     ·exact .inr (.inr h)
    ·rintro ((h | h) | (h | h))
     ·exact .inl h
     ·exact .inr (.inl h)
     ·exact .inl h
     ·exact .inr (.inr h)
   ·have := both_mem k (x :: a) b (by simp; omega) o
    rw [if_neg h1, if_neg h2, List.mem_cons, this, List.mem_cons, List.mem_cons]
    constructor
    ·rintro (h | (h | h) | h)
     ·exact .inr (.inl h)
     ·exact .inl (.inl h)
     ·exact .inl (.inr h)
     ·exact .inr (.inr h)
    ·rintro ((h | h) | (h | h))
     ·exact .inr (.inl (.inl h))
     ·exact .inr (.inl (.inr h))
     ·exact .inl h
     ·exact .inr (.inr h)
theorem both_srt : ∀ (k : Nat) (a b : List S40), a.length + b.length ≤ k → Srt a → Srt b → Srt (both k a b)
 | 0, a, b, h, _, _ => List.Pairwise.nil
 | _ + 1, [], [], _, _, _ => List.Pairwise.nil
 | k + 1, [], y :: b, h, ha, hb => by
  have hb' := List.pairwise_cons.1 hb
  have hl : ([] : List S40).length + b.length ≤ k := by simp at h ⊢; omega
  refine List.pairwise_cons.2 ⟨fun o ho => ?_, both_srt k [] b hl ha hb'.2⟩
  rcases (both_mem k [] b hl o).1 ho with h | h
  ·cases h
  ·exact hb'.1 o h
 | k + 1, x :: a, [], h, ha, hb => by
  have ha' := List.pairwise_cons.1 ha
  have hl : a.length + ([] : List S40).length ≤ k := by simp at h ⊢; omega
  refine List.pairwise_cons.2 ⟨fun o ho => ?_, both_srt k a [] hl ha'.2 hb⟩
  rcases (both_mem k a [] hl o).1 ho with h | h
  ·exact ha'.1 o h
  ·cases h
 | k + 1, x :: a, y :: b, h, ha, hb => by
  simp only [List.length_cons] at h
  have ha' := List.pairwise_cons.1 ha
  have hb' := List.pairwise_cons.1 hb
  simp only [both]
  by_cases h1 : cmpO x y < 0
  ·rw [if_pos h1]
   have hl : a.length + (y :: b).length ≤ k := by simp; omega
   refine List.pairwise_cons.2 ⟨fun o ho => ?_, both_srt k a (y :: b) hl ha'.2 hb⟩
   rcases (both_mem k a (y :: b) hl o).1 ho with h | h
   ·exact ha'.1 o h
   ·rcases List.mem_cons.1 h with rfl | h
    ·exact h1
    ·exact cmpO_trans h1 (hb'.1 o h)
  ·rw [if_neg h1]
   by_cases h2 : cmpO x y = 0
   ·rw [if_pos h2]
    have e := cmpO_eq h2
    subst e
    have hl : a.length + b.length ≤ k := by omega
    refine List.pairwise_cons.2 ⟨fun o ho => ?_, both_srt k a b hl ha'.2 hb'.2⟩
    rcases (both_mem k a b hl o).1 ho with h | h
    ·exact ha'.1 o h
    ·exact hb'.1 o h
   ·rw [if_neg h2]
    have h3 := cmpO_gt h1 h2
    have hl : (x :: a).length + b.length ≤ k := by simp; omega
    refine List.pairwise_cons.2 ⟨fun o ho => ?_, both_srt k (x :: a) b hl ha hb'.2⟩
    rcases (both_mem k (x :: a) b hl o).1 ho with h | h
    ·rcases List.mem_cons.1 h with rfl | h
     ·exact h3
     ·exact cmpO_trans h3 (ha'.1 o h)
    ·exact hb'.1 o h
theorem merged_mem {a b : List S40} {o : S40} : o ∈ merged a b ↔ o ∈ a ∨ o ∈ b := both_mem _ a b (Nat.le_refl _) o
theorem merged_srt {a b : List S40} (ha : Srt a) (hb : Srt b) : Srt (merged a b) := both_srt _ a b (Nat.le_refl _) ha hb
theorem merged_len : ∀ (k : Nat) (a b : List S40), (both k a b).length ≤ k
 | 0, _, _ => by simp [both]
 | _ + 1, [], [] => by simp [both]
 | k + 1, [], y :: b => by have := merged_len k [] b; simp [both]; omega
 | k + 1, x :: a, [] => by have := merged_len k a []; simp [both]; omega
 | k + 1, x :: a, y :: b => by
  have h1 := merged_len k a (y :: b)
  have h2 := merged_len k a b
  have h3 := merged_len k (x :: a) b
  simp only [both]
  split
  ·simp; omega
  ·split <;> simp <;> omega
/-- No two operations of a list have one device and number. -/
def KU (l : List S40) : Prop := ∀ x ∈ l, ∀ y ∈ l, sameKey x y = true → x = y
theorem key_iff {a b : S40} : sameKey a b = true ↔ a.f0 = b.f0 ∧ a.f1 = b.f1 := by simp [sameKey]
theorem key_comm {a b : S40} : sameKey a b = sameKey b a := by rw [Bool.eq_iff_iff, key_iff, key_iff, eq_comm, @eq_comm _ a.f1]
theorem key_self (a : S40) : sameKey a a = true := by simp [sameKey]
structure Vl (l : List S40) : Prop where
 len : l.length ≤ 256
 op : ∀ o ∈ l, opV o = true
 srt : Srt l
 ku : KU l
theorem srt_adj {l : List S40} (h : ∀ i (hi : i + 1 < l.length), cmpO (l[i]'(by omega)) l[i + 1] < 0) : Srt l := by
 rw [Srt, List.pairwise_iff_getElem]
 intro i j hi hj hij
 induction j with
 | zero => omega
 | succ j ih =>
  rcases Nat.lt_or_ge i j with h1 | h1
  ·exact cmpO_trans (ih (by omega) h1) (h j hj)
  ·obtain rfl : i = j := by omega
   exact h i hj
theorem chk_at {l : List S40} {i : Nat} (hi : i < l.length) : opAtOk l i = true ↔ opV l[i] = true ∧ (∀ j (hj : j < i), sameKey l[i] (l[j]'(by omega)) = false) ∧ ∀ h0 : 0 < i, cmpO (l[i - 1]'(by omega)) l[i] < 0 := by
 have e : (l.take i).any (sameKey l[i]) = false ↔ ∀ j (hj : j < i), sameKey l[i] (l[j]'(by omega)) = false := by
  rw [List.any_eq_false]
  constructor
  ·intro h j hj
   have := h l[j] (List.mem_take_iff_getElem.2 ⟨j, by omega, rfl⟩)
   simpa using this
  ·intro h x hx
   obtain ⟨j, hj, rfl⟩ := List.mem_take_iff_getElem.1 hx
   rw [h j (by omega)]
   simp
 rw [opAtOk, rd_at40 l i hi, Bool.and_eq_true, Bool.and_eq_true, Bool.not_eq_true', e, Bool.or_eq_true, decide_eq_true_eq, decide_eq_true_eq]
 refine and_congr_right fun _ => and_congr_right fun _ => ?_
 constructor
 ·intro h h0
  rcases h with h | h
  ·omega
  ·rwa [rd_at40 l (i - 1) (by omega)] at h
 ·intro h
  by_cases h0 : i = 0
  ·exact .inl h0
  ·right
   rw [rd_at40 l (i - 1) (by omega)]
   exact h (by omega)
theorem chkD_iff {l : List S40} : chkD l = true ↔ Vl l := by
 rw [chkD, Bool.and_eq_true, decide_eq_true_eq, List.all_eq_true]
 constructor
 ·rintro ⟨h1, h2⟩
  have h3 := fun i (hi : i < l.length) => (chk_at hi).1 (h2 i (List.mem_range.2 hi))
  refine ⟨h1, fun o ho => ?_, srt_adj fun i hi => ?_, fun x hx y hy hk => ?_⟩
  ·obtain ⟨i, hi, rfl⟩ := List.getElem_of_mem ho
   exact (h3 i hi).1
  ·exact (h3 (i + 1) hi).2.2 (by omega)
  ·obtain ⟨i, hi, rfl⟩ := List.getElem_of_mem hx
   obtain ⟨j, hj, rfl⟩ := List.getElem_of_mem hy
   rcases Nat.lt_trichotomy i j with h | h | h
   ·have := (h3 j hj).2.1 i h
    rw [key_comm, hk] at this
    cases this
   ·subst h; rfl
   ·have := (h3 i hi).2.1 j h
    rw [hk] at this
    cases this
 ·intro h
  refine ⟨h.len, fun i hi => ?_⟩
  have hi := List.mem_range.1 hi
  have hp := List.pairwise_iff_getElem.1 h.srt
  refine (chk_at hi).2 ⟨h.op _ (List.getElem_mem _), fun j hj => ?_, fun h0 => hp (i - 1) i (by omega) hi (by omega)⟩
  rw [← Bool.not_eq_true]
  intro hk
  have e := h.ku _ (List.getElem_mem hi) _ (List.getElem_mem (show j < l.length by omega)) hk
  have := hp j i (by omega) hi hj
  rw [e] at this
  exact cmpO_irr this
theorem Vl.nil : Vl [] := ⟨by simp, by simp, List.Pairwise.nil, by simp [KU]⟩
theorem vl_one {o : S40} : Vl [o] ↔ opV o = true := ⟨fun h => h.op o (by simp), fun h => ⟨by simp, by simpa using h, by simp [Srt], by simp [KU]⟩⟩
theorem apart_iff {l : List S40} (h : Srt l) : apart l = true ↔ KU l := by
 induction l with
 | nil => simp [apart, KU]
 | cons o l ih =>
  have h' := List.pairwise_cons.1 h
  rw [apart, Bool.and_eq_true, Bool.not_eq_true', List.any_eq_false, ih h'.2]
  constructor
  ·rintro ⟨h1, h2⟩ x hx y hy hk
   rcases List.mem_cons.1 hx with rfl | hx3
   ·rcases List.mem_cons.1 hy with rfl | hy
    ·rfl
    ·exact absurd hk (h1 y hy)
   ·rcases List.mem_cons.1 hy with rfl | hy
    ·rw [key_comm] at hk
     exact absurd hk (h1 x hx3)
    ·exact h2 x hx3 y hy hk
  ·intro h2
   refine ⟨fun x hx hk => ?_, fun x hx y hy => h2 x (List.mem_cons_of_mem _ hx) y (List.mem_cons_of_mem _ hy)⟩
   have := h2 o (by simp) x (List.mem_cons_of_mem _ hx) hk
   subst this
   exact cmpO_irr (h'.1 _ hx)
/-- Two lists' operations have no device and number in common, but for those that are in both. -/
def Agree (a b : List S40) : Prop := ∀ x ∈ a, ∀ y ∈ b, sameKey x y = true → x = y
theorem Agree.symm {a b : List S40} (h : Agree a b) : Agree b a := fun x hx y hy hk => (h y hy x hx (by rwa [key_comm])).symm
theorem ku_merged {a b : List S40} (ha : KU a) (hb : KU b) : KU (merged a b) ↔ Agree a b := by
 constructor
 ·exact fun h x hx y hy => h x (merged_mem.2 (.inl hx)) y (merged_mem.2 (.inr hy))
 ·intro h x hx y hy hk
  rcases merged_mem.1 hx with hx | hx <;> rcases merged_mem.1 hy with hy | hy
  ·exact ha x hx y hy hk
  ·exact h x hx y hy hk
  ·exact h.symm x hx y hy hk
  ·exact hb x hx y hy hk
theorem merged_comm {a b : List S40} (ha : Srt a) (hb : Srt b) : merged a b = merged b a := srt_ext (merged_srt ha hb) (merged_srt hb ha) fun o => by rw [merged_mem, merged_mem, or_comm]
theorem merged_self {a : List S40} (ha : Srt a) : merged a a = a := srt_ext (merged_srt ha ha) ha fun o => by rw [merged_mem, or_self]
theorem merged_assoc {a b c : List S40} (ha : Srt a) (hb : Srt b) (hc : Srt c) : merged (merged a b) c = merged a (merged b c) :=
 srt_ext (merged_srt (merged_srt ha hb) hc) (merged_srt ha (merged_srt hb hc)) fun o => by simp only [merged_mem, or_assoc]
theorem merged_sub {a b : List S40} (ha : Srt a) (hb : Srt b) (h : ∀ o ∈ b, o ∈ a) : merged a b = a := srt_ext (merged_srt ha hb) ha fun o => by
 rw [merged_mem]
 exact ⟨fun h' => h'.elim id (h o), .inl⟩
/-- What merging comes to. -/
inductive Merges (a b : List S40) : List S40 × Int → Prop
 | bad (h : ¬ (Vl a ∧ Vl b ∧ Agree a b)) : Merges a b ([], 420)
 | many (h1 : Vl a) (h2 : Vl b) (h3 : Agree a b) (h : 256 < (merged a b).length) : Merges a b ([], 2)
 | ok (h1 : Vl a) (h2 : Vl b) (h3 : Agree a b) (h : Vl (merged a b)) : Merges a b (merged a b, 0)
theorem merges (a b : List S40) : Merges a b (mergeV a b) := by
 rw [mergeV]
 by_cases ha : chkD a = true
 ·have va := chkD_iff.1 ha
  rw [if_pos ha]
  by_cases hb : chkD b = true
  ·have vb := chkD_iff.1 hb
   rw [if_pos hb]
   have hs := merged_srt va.srt vb.srt
   by_cases hk : apart (merged a b) = true
   ·have ku := (apart_iff hs).1 hk
    have ag := (ku_merged va.ku vb.ku).1 ku
    rw [if_pos hk]
    by_cases hl : (merged a b).length ≤ 256
    ·rw [if_pos hl]
     exact .ok va vb ag ⟨hl, fun o ho => (merged_mem.1 ho).elim (va.op o) (vb.op o), hs, ku⟩
    ·rw [if_neg hl]
     exact .many va vb ag (by omega)
   ·rw [if_neg hk]
    exact .bad fun h => hk ((apart_iff hs).2 ((ku_merged va.ku vb.ku).2 h.2.2))
  ·rw [if_neg hb]
   exact .bad fun h => hb (chkD_iff.2 h.2.1)
 ·rw [if_neg ha]
  exact .bad fun h => ha (chkD_iff.2 h.1)
theorem mergeV_ok {a b : List S40} (h1 : Vl a) (h2 : Vl b) (h3 : Agree a b) (h : (merged a b).length ≤ 256) : mergeV a b = (merged a b, 0) := by
 have := merges a b
 revert this
 generalize mergeV a b = r
 intro hm
 cases hm with
 | bad h' => exact absurd ⟨h1, h2, h3⟩ h'
 | many _ _ _ h' => omega
 | ok => rfl
theorem mergeV_zero {a b : List S40} (h : (mergeV a b).2 = 0) : Vl a ∧ Vl b ∧ Agree a b ∧ Vl (merged a b) ∧ mergeV a b = (merged a b, 0) := by
 have hm := merges a b
 generalize mergeV a b = r at hm h ⊢
 cases hm with
 | bad h' => cases h
 | many _ _ _ h' => cases h
 | ok h1 h2 h3 h4 => exact ⟨h1, h2, h3, h4, rfl⟩
theorem mergeV_err {a b : List S40} (h : (mergeV a b).2 ≠ 0) : (mergeV a b).1 = [] := by
 have hm := merges a b
 generalize mergeV a b = r at hm h ⊢
 cases hm with
 | bad h' => rfl
 | many _ _ _ h' => rfl
 | ok h1 h2 h3 h4 => exact absurd rfl h
theorem mergeV_comm (a b : List S40) : mergeV a b = mergeV b a := by
 have hm := merges a b
 have hn := merges b a
 generalize mergeV a b = r at hm ⊢
 generalize mergeV b a = s at hn ⊢
 cases hm with
 | bad h => cases hn with
  | bad => rfl
  | many h1 h2 h3 => exact absurd ⟨h2, h1, h3.symm⟩ h
  | ok h1 h2 h3 => exact absurd ⟨h2, h1, h3.symm⟩ h
 | many h1 h2 h3 h => cases hn with
  | bad h' => exact absurd ⟨h2, h1, h3.symm⟩ h'
  | many => rfl
  | ok _ _ _ h' => have := h'.len; rw [merged_comm h2.srt h1.srt] at this; omega
 | ok h1 h2 h3 h => cases hn with
  | bad h' => exact absurd ⟨h2, h1, h3.symm⟩ h'
  | many _ _ _ h' => have := h.len; rw [merged_comm h1.srt h2.srt] at this; omega
  | ok => rw [merged_comm h1.srt h2.srt]
end Go.Proofs.Ytkclehmjkncmnaa.P
/- Plain laws of chapter 42: holdings. -/
namespace Go.Proofs.Ytkclehmjkncmnaa.P
open Go.RowKit Go.Proofs.YtkclehmjkncmnaaW.PrintWords Go.Proofs.YtkclehmjkncmnaaW.PrintLast Go.Proofs.YtkclehmjkncmnaaW.PrintMore
set_option linter.unusedVariables false

def onC (c : Int) (l : List S40) : List S40 := l.filter fun o => decide (o.f3 = c)
theorem mem_onC {c : Int} {l : List S40} {o : S40} : o ∈ onC c l ↔ o ∈ l ∧ o.f3 = c := by simp [onC]
theorem Srt.filter {l : List S40} (h : Srt l) (p : S40 → Bool) : Srt (l.filter p) := List.Pairwise.filter p h
theorem onC_other {l : List S40} {o : S40} {c : Int} (hl : Srt l) (hc : c ≠ o.f3) : onC c (merged l [o]) = onC c l := by
 refine srt_ext ((merged_srt hl (by simp [Srt])).filter _) (hl.filter _) fun x => ?_
 rw [mem_onC, mem_onC, merged_mem, List.mem_singleton]
 constructor
 ·rintro ⟨h | rfl, h2⟩
  ·exact ⟨h, h2⟩
  ·exact absurd h2.symm hc
 ·exact fun h => ⟨.inl h.1, h.2⟩
theorem cmpO_lt {a b : S40} (h : a.f3 = b.f3) (h2 : a.f5 < b.f5) : cmpO a b < 0 := by
 simp only [cmpO, nums, cmpL, h, h2, if_true, if_false, Int.lt_irrefl]
 decide
/-- An operation with a Token above all others of its copy comes last among them. -/
theorem onC_last {l : List S40} {o : S40} (hl : Srt l) (h : ∀ p ∈ l, p.f3 = o.f3 → p.f5 < o.f5) : onC o.f3 (merged l [o]) = onC o.f3 l ++ [o] := by
 refine srt_ext ((merged_srt hl (by simp [Srt])).filter _) ?_ fun x => ?_
 ·refine List.pairwise_append.2 ⟨hl.filter _, by simp, fun x hx y hy => ?_⟩
  obtain ⟨hx1, hx2⟩ := mem_onC.1 hx
  obtain rfl := List.mem_singleton.1 hy
  exact cmpO_lt hx2 (h x hx1 hx2)
 ·rw [mem_onC, merged_mem, List.mem_append, mem_onC, List.mem_singleton]
  constructor
  ·rintro ⟨h | rfl, h2⟩
   ·exact .inl ⟨h, h2⟩
   ·exact .inr rfl
  ·rintro (h | rfl)
   ·exact ⟨.inl h.1, h.2⟩
   ·exact ⟨.inr rfl, rfl⟩
theorem holdH_eq (l : List S40) (c first : Int) : holdH l c first = (onC c l).foldl stepH ⟨c, first, 0, false⟩ := rfl
theorem step_f0 (h : S47) (o : S40) : (stepH h o).f0 = h.f0 := by
 unfold stepH
 split
 ·split <;> rfl
 ·rfl
theorem hold_f0 (l : List S40) (c first : Int) : (holdH l c first).f0 = c := by
 rw [holdH_eq]
 generalize hh : (⟨c, first, 0, false⟩ : S47) = h
 have e : h.f0 = c := by rw [← hh]
 clear hh
 induction onC c l generalizing h with
 | nil => exact e
 | cons o l ih => exact ih (stepH h o) ((step_f0 h o).trans e)
theorem dev_step {h : S47} {o : S40} (h1 : isDev h.f1 = true) (ho : opV o = true) : isDev (stepH h o).f1 = true := by
 unfold stepH
 split
 ·split
  ·rename_i h2
   simp only [opV, h2, Bool.and_eq_true, Bool.or_eq_true, decide_eq_true_eq] at ho
   rcases ho.1 with h3 | h3
   ·exact h3.2
   ·omega
  ·exact h1
 ·exact h1
theorem hold_dev {l : List S40} {c first : Int} (hl : ∀ o ∈ l, opV o = true) (hf : isDev first = true) : isDev (holdH l c first).f1 = true := by
 rw [holdH_eq]
 have h2 : ∀ o ∈ onC c l, opV o = true := fun o ho => hl o (mem_onC.1 ho).1
 generalize hh : (⟨c, first, 0, false⟩ : S47) = h
 have e : isDev h.f1 = true := by rw [← hh]; exact hf
 clear hh
 generalize onC c l = L at h2
 induction L generalizing h with
 | nil => exact e
 | cons o l ih => exact ih (stepH h o) (dev_step e (h2 o (by simp))) (fun x hx => h2 x (List.mem_cons_of_mem _ hx))
/-- The devices that have had a copy. -/
def Had (l : List S40) (c first d : Int) : Prop := d = first ∨ ∃ o ∈ l, o.f3 = c ∧ (o.f0 = d ∨ o.f2 = 1 ∧ o.f4 = d)
theorem had_fold {a : List S40} {c first : Int} : ∀ (L : List S40) (h : S47), (∀ o ∈ L, o.f3 = c) → Had a c first h.f1 → (∀ o ∈ L, o ∉ a → ¬ Had a c first o.f0) →
  L.foldl stepH h = (L.filter fun o => decide (o ∈ a)).foldl stepH h := by
 intro L
 induction L with
 | nil => exact fun h _ _ _ => rfl
 | cons o L ih =>
  intro h hc hh hn
  have hc' : ∀ o ∈ L, o.f3 = c := fun x hx => hc x (List.mem_cons_of_mem _ hx)
  have hn' : ∀ o ∈ L, o ∉ a → ¬ Had a c first o.f0 := fun x hx => hn x (List.mem_cons_of_mem _ hx)
  by_cases ho : o ∈ a
  ·rw [List.filter_cons_of_pos (by simpa using ho), List.foldl_cons, List.foldl_cons]
   refine ih _ hc' ?_ hn'
   unfold stepH
   split
   ·split
    ·exact .inr ⟨o, ho, hc o (by simp), .inr ⟨by assumption, rfl⟩⟩
    ·exact hh
   ·exact hh
  ·rw [List.filter_cons_of_neg (by simpa using ho), List.foldl_cons]
   have : stepH h o = h := by
    unfold stepH
    rw [if_neg]
    rintro ⟨_, h2, _⟩
    exact hn o (by simp) ho (h2 ▸ hh)
   rw [this]
   exact ih h hc' hh hn'
theorem hold_stale {a b : List S40} {c first : Int} (ha : Srt a) (hb : Srt b) (h : ∀ o ∈ b, o.f3 = c → o ∉ a → ¬ Had a c first o.f0) : holdH (merged a b) c first = holdH a c first := by
 rw [holdH_eq, holdH_eq, had_fold (a := a) (c := c) (first := first)]
 ·congr 1
  refine srt_ext (((merged_srt ha hb).filter _).filter _) (ha.filter _) fun x => ?_
  rw [List.mem_filter, decide_eq_true_eq, mem_onC, mem_onC, merged_mem]
  exact ⟨fun h => ⟨h.2, h.1.2⟩, fun h => ⟨⟨.inl h.1, h.2⟩, h.1⟩⟩
 ·exact fun o ho => (mem_onC.1 ho).2
 ·exact .inl rfl
 ·intro o ho hn
  obtain ⟨h1, h2⟩ := mem_onC.1 ho
  rcases merged_mem.1 h1 with h1 | h1
  ·exact absurd h1 hn
  ·exact h o h1 h2 hn
theorem hold_next {l : List S40} {o : S40} {first : Int} (hl : Srt l) (h : ∀ p ∈ l, p.f3 = o.f3 → p.f5 < o.f5) : holdH (merged l [o]) o.f3 first = stepH (holdH l o.f3 first) o := by
 rw [holdH_eq, holdH_eq, onC_last hl h, List.foldl_append]
 rfl
theorem hold_other {l : List S40} {o : S40} {c first : Int} (hl : Srt l) (hc : c ≠ o.f3) : holdH (merged l [o]) c first = holdH l c first := by
 rw [holdH_eq, holdH_eq, onC_other hl hc]
inductive States (l : List S40) (copies first : Int) : List S47 × Int → Prop
 | bad (h : ¬ Vl l) : States l copies first ([], 420)
 | arg (h : Vl l) (h2 : ¬ ((0 ≤ copies ∧ copies ≤ 1024) ∧ isDev first = true)) : States l copies first ([], 1)
 | ok (h : Vl l) (h2 : 0 ≤ copies) (h3 : copies ≤ 1024) (h4 : isDev first = true) : States l copies first ((List.range copies.toNat).map fun c : Nat => holdH l c first, 0)
theorem states (l : List S40) (copies first : Int) : States l copies first (stateV l copies first) := by
 rw [stateV]
 by_cases ha : chkD l = true
 ·rw [if_pos ha]
  have va := chkD_iff.1 ha
  by_cases h1 : inI copies 0 1024 = true
  ·rw [if_pos h1]
   have h2 : 0 ≤ copies ∧ copies ≤ 1024 := by simpa [inI] using h1
   by_cases h3 : isDev first = true
   ·rw [if_pos h3]
    exact .ok va h2.1 h2.2 h3
   ·rw [if_neg h3]
    exact .arg va fun h => h3 h.2
  ·rw [if_neg h1]
   exact .arg va fun h => h1 (by simpa [inI] using h.1)
 ·rw [if_neg ha]
  exact .bad fun h => ha (chkD_iff.2 h)
theorem hold_tok {l : List S40} {c first : Int} (hl : ∀ o ∈ l, opV o = true) : 0 ≤ (holdH l c first).f2 ∧ (holdH l c first).f2 ≤ 65536 := by
 rw [holdH_eq]
 have h2 : ∀ o ∈ onC c l, opV o = true := fun o ho => hl o (mem_onC.1 ho).1
 generalize hh : (⟨c, first, 0, false⟩ : S47) = h
 have e : 0 ≤ h.f2 ∧ h.f2 ≤ 65536 := by rw [← hh]; exact ⟨by simp, by simp⟩
 clear hh
 generalize onC c l = L at h2
 induction L generalizing h with
 | nil => exact e
 | cons o l ih =>
  refine ih (stepH h o) ?_ (fun x hx => h2 x (List.mem_cons_of_mem _ hx))
  have ho := h2 o (by simp)
  simp only [opV, inI, Bool.and_eq_true, decide_eq_true_eq] at ho
  unfold stepH
  split
  ·split <;> (simp only; omega)
  ·exact e
theorem wrap_id {x : Int} (h : -9223372036854775808 ≤ x) (h2 : x ≤ 9223372036854775807) : wrap64 x = x := by unfold wrap64; omega
theorem wrap_succ (i : Nat) (h : i < 9223372036854775807) : wrap64 ((i : Int) + 1) = ((i + 1 : Nat) : Int) := by rw [wrap_id (by omega) (by omega)]; rfl
end Go.Proofs.Ytkclehmjkncmnaa.P
