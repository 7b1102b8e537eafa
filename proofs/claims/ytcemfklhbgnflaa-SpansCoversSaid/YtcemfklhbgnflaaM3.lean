/- What the reference of chapter 3 computes, in plain Lean: sets, days, cover. -/
import Derived.Test.YtcemfklhbgnflaaM2
namespace Go.Proofs.Ytcemfklhbgnflaa.P
open Go.RowKit Go.Proofs.YtcemfklhbgnflaaW.PrintWords Go.Proofs.YtcemfklhbgnflaaW.PrintLast Go.Proofs.YtcemfklhbgnflaaO
set_option linter.unusedVariables false

/-! ### Sets -/
def mixf (op : Bool → Bool → Bool) (a b : Nat → Bool) (n m : Nat) : Bool := if m < n then op (a m) (b m) else a m
theorem mix_set (op : Bool → Bool → Bool) (a b : Nat → Bool) (n : Nat) (v : Bool) (hv : v = op (a n) (b n)) : (db (mixf op a b n)).set n v = db (mixf op a b (n + 1)) := by
  rw [db_set]
  refine db_congr fun m _ => ?_
  by_cases e : m = n
  · subst e
    simp [mixf, hv]
  · by_cases c : m < n
    · simp [mixf, e, c, show m < n + 1 by omega]
    · simp [mixf, e, c, show ¬ m < n + 1 by omega]
theorem rUnion_l0 (a b : Nat → Bool) : ∀ (d n : Nat), n ≤ 1024 → 1024 - n = d → Ev (fun k => testamurref03_Union.l0 k (db (mixf (fun x y => x || y) a b n)) (db b) (n : Int)) (nrm fun m => (fun x y => x || y) (a m) (b m)) := by
  intro d
  induction d with
  | zero =>
    intro n hn hd
    obtain rfl : n = 1024 := by omega
    refine Ev.step (f := fun k => (testamurref03_Spans.f k (db (mixf (fun x y => x || y) a b 1024))).bind fun t => some t) (fun k => ?_) ?_
    · rw [testamurref03_Union.l0, if_neg (by rw [db_len]; omega)]
    · rw [db_congr (g := fun m => (fun x y => x || y) (a m) (b m)) (fun m hm => by simp [mixf]; omega)]
      exact Ev.bind (f := fun _ t => some t) (spans_ev _) (Ev.now _)
  | succ d ih =>
    intro n hn hd
    refine Ev.step (f := fun k => testamurref03_Union.l0 k (db (mixf (fun x y => x || y) a b (n + 1))) (db b) ((n + 1 : Nat) : Int)) (fun k => ?_) (ih (n + 1) (by omega) (by omega))
    rw [testamurref03_Union.l0, if_pos (by rw [db_len]; omega), if_pos (by omega), db_get _ _ (by omega) (by omega), db_get _ _ (by omega) (by omega), wrap_id (by omega) (by omega)]
    simp only [Int.toNat_natCast]
    have e : mixf (fun x y => x || y) a b n n = a n := by simp [mixf]
    have ew : ((n + 1 : Nat) : Int) = (n : Int) + 1 := by omega
    have hl : (n : Int) < (db b).length := by rw [db_len]; omega
    rw [e, ew]
    cases h : a n
    · simp only [Bool.false_eq_true, if_false, hl, if_true]
      rw [mix_set _ _ _ _ _ (by simp [h])]
    · simp only [if_true, hl]
      rw [mix_set _ _ _ _ _ (by simp [h])]
theorem rUnion_ev (l0 l1 : List S31) (h0 : l0.length ≤ 9223372036854775806) (h1 : l1.length ≤ 9223372036854775806) : Ev (fun k => testamurref03_Union.f k l0 l1) (nrm fun m => (fun x y => x || y) (inl l0 m) (inl l1 m)) := by
  refine Ev.bind (days_ev l0 h0) (Ev.bind (f := fun k t => testamurref03_Union.l0 k (db (inl l0)) t 0) (days_ev l1 h1) ?_)
  have h := rUnion_l0 (inl l0) (inl l1) 1024 0 (by omega) (by omega)
  rw [db_congr (g := inl l0) (fun m _ => by simp [mixf])] at h
  exact h
theorem rMeet_l0 (a b : Nat → Bool) : ∀ (d n : Nat), n ≤ 1024 → 1024 - n = d → Ev (fun k => testamurref03_Meet.l0 k (db (mixf (fun x y => x && y) a b n)) (db b) (n : Int)) (nrm fun m => (fun x y => x && y) (a m) (b m)) := by
  intro d
  induction d with
  | zero =>
    intro n hn hd
    obtain rfl : n = 1024 := by omega
    refine Ev.step (f := fun k => (testamurref03_Spans.f k (db (mixf (fun x y => x && y) a b 1024))).bind fun t => some t) (fun k => ?_) ?_
    · rw [testamurref03_Meet.l0, if_neg (by rw [db_len]; omega)]
    · rw [db_congr (g := fun m => (fun x y => x && y) (a m) (b m)) (fun m hm => by simp [mixf]; omega)]
      exact Ev.bind (f := fun _ t => some t) (spans_ev _) (Ev.now _)
  | succ d ih =>
    intro n hn hd
    refine Ev.step (f := fun k => testamurref03_Meet.l0 k (db (mixf (fun x y => x && y) a b (n + 1))) (db b) ((n + 1 : Nat) : Int)) (fun k => ?_) (ih (n + 1) (by omega) (by omega))
    rw [testamurref03_Meet.l0, if_pos (by rw [db_len]; omega), if_pos (by omega), db_get _ _ (by omega) (by omega), db_get _ _ (by omega) (by omega), wrap_id (by omega) (by omega)]
    simp only [Int.toNat_natCast]
    have e : mixf (fun x y => x && y) a b n n = a n := by simp [mixf]
    have ew : ((n + 1 : Nat) : Int) = (n : Int) + 1 := by omega
    have hl : (n : Int) < (db b).length := by rw [db_len]; omega
    rw [e, ew]
    cases h : a n
    · simp only [Bool.false_eq_true, if_false, hl, if_true]
      rw [mix_set _ _ _ _ _ (by simp [h])]
    · simp only [if_true, hl]
      rw [mix_set _ _ _ _ _ (by simp [h])]
theorem rMeet_ev (l0 l1 : List S31) (h0 : l0.length ≤ 9223372036854775806) (h1 : l1.length ≤ 9223372036854775806) : Ev (fun k => testamurref03_Meet.f k l0 l1) (nrm fun m => (fun x y => x && y) (inl l0 m) (inl l1 m)) := by
  refine Ev.bind (days_ev l0 h0) (Ev.bind (f := fun k t => testamurref03_Meet.l0 k (db (inl l0)) t 0) (days_ev l1 h1) ?_)
  have h := rMeet_l0 (inl l0) (inl l1) 1024 0 (by omega) (by omega)
  rw [db_congr (g := inl l0) (fun m _ => by simp [mixf])] at h
  exact h
theorem rMinus_l0 (a b : Nat → Bool) : ∀ (d n : Nat), n ≤ 1024 → 1024 - n = d → Ev (fun k => testamurref03_Minus.l0 k (db (mixf (fun x y => x && !y) a b n)) (db b) (n : Int)) (nrm fun m => (fun x y => x && !y) (a m) (b m)) := by
  intro d
  induction d with
  | zero =>
    intro n hn hd
    obtain rfl : n = 1024 := by omega
    refine Ev.step (f := fun k => (testamurref03_Spans.f k (db (mixf (fun x y => x && !y) a b 1024))).bind fun t => some t) (fun k => ?_) ?_
    · rw [testamurref03_Minus.l0, if_neg (by rw [db_len]; omega)]
    · rw [db_congr (g := fun m => (fun x y => x && !y) (a m) (b m)) (fun m hm => by simp [mixf]; omega)]
      exact Ev.bind (f := fun _ t => some t) (spans_ev _) (Ev.now _)
  | succ d ih =>
    intro n hn hd
    refine Ev.step (f := fun k => testamurref03_Minus.l0 k (db (mixf (fun x y => x && !y) a b (n + 1))) (db b) ((n + 1 : Nat) : Int)) (fun k => ?_) (ih (n + 1) (by omega) (by omega))
    rw [testamurref03_Minus.l0, if_pos (by rw [db_len]; omega), if_pos (by omega), db_get _ _ (by omega) (by omega), db_get _ _ (by omega) (by omega), wrap_id (by omega) (by omega)]
    simp only [Int.toNat_natCast]
    have e : mixf (fun x y => x && !y) a b n n = a n := by simp [mixf]
    have ew : ((n + 1 : Nat) : Int) = (n : Int) + 1 := by omega
    have hl : (n : Int) < (db b).length := by rw [db_len]; omega
    rw [e, ew]
    cases h : a n
    · simp only [Bool.false_eq_true, if_false, hl, if_true]
      rw [mix_set _ _ _ _ _ (by simp [h])]
    · simp only [if_true, hl]
      rw [mix_set _ _ _ _ _ (by simp [h])]
theorem rMinus_ev (l0 l1 : List S31) (h0 : l0.length ≤ 9223372036854775806) (h1 : l1.length ≤ 9223372036854775806) : Ev (fun k => testamurref03_Minus.f k l0 l1) (nrm fun m => (fun x y => x && !y) (inl l0 m) (inl l1 m)) := by
  refine Ev.bind (days_ev l0 h0) (Ev.bind (f := fun k t => testamurref03_Minus.l0 k (db (inl l0)) t 0) (days_ev l1 h1) ?_)
  have h := rMinus_l0 (inl l0) (inl l1) 1024 0 (by omega) (by omega)
  rw [db_congr (g := inl l0) (fun m _ => by simp [mixf])] at h
  exact h
/-! ### Check -/
theorem rcheck_l0 (l : List S31) (hl : l.length ≤ 9223372036854775806) : ∀ (d n : Nat), n ≤ l.length → l.length - n = d → Ev (fun k => testamurref03_Check.l0 k l (n : Int)) (if (l.drop n).any badSpan then 30 else 0) := by
  intro d
  induction d with
  | zero =>
    intro n hn hd
    refine Ev.step (f := fun _ => some 0) (fun k => ?_) ?_
    · rw [testamurref03_Check.l0, if_neg (by omega)]
    · rw [List.drop_eq_nil_of_le (by omega)]
      exact Ev.now _
  | succ d ih =>
    intro n hn hd
    have hlt : n < l.length := by omega
    rw [List.drop_eq_getElem_cons hlt, List.any_cons]
    have ew : ((n + 1 : Nat) : Int) = wrap64 ((n : Int) + 1) := by rw [wrap_id (by omega) (by omega)]; omega
    by_cases hb : badSpan l[n] = true
    · refine Ev.step (f := fun _ => some 30) (fun k => ?_) (by rw [hb]; exact Ev.now _)
      rw [testamurref03_Check.l0, if_pos (by omega), if_pos (by omega), rd_at l n hlt]
      simp only [badSpan, Bool.or_eq_true, decide_eq_true_eq] at hb
      by_cases c1 : l[n].f0 < 0
      · rw [if_pos c1]
      · rw [if_neg c1]
        by_cases c2 : l[n].f0 ≥ l[n].f1
        · rw [if_pos c2]
        · rw [if_neg c2, if_pos (by omega)]
    · refine Ev.step (f := fun k => testamurref03_Check.l0 k l ((n + 1 : Nat) : Int)) (fun k => ?_) (by simp only [hb]; exact ih (n + 1) (by omega) (by omega))
      rw [testamurref03_Check.l0, if_pos (by omega), if_pos (by omega), rd_at l n hlt, ew]
      simp only [badSpan, Bool.or_eq_true, decide_eq_true_eq] at hb
      rw [if_neg (by omega), if_neg (by omega), if_neg (by omega)]
theorem rcheck_ev (l : List S31) (hl : l.length ≤ 9223372036854775806) : Ev (fun k => testamurref03_Check.f k l) (if l.any badSpan then 30 else 0) := by
  have h := rcheck_l0 l hl l.length 0 (by omega) (by omega)
  rw [List.drop_zero] at h
  exact h
/-! ### Has -/
theorem rhas_l0 (l : List S31) (a : Int) (hl : l.length ≤ 9223372036854775806) : ∀ (d n : Nat), n ≤ l.length → l.length - n = d → Ev (fun k => testamurref03_Has.l0 k l a (n : Int)) ((l.drop n).any (hasDay a)) := by
  intro d
  induction d with
  | zero =>
    intro n hn hd
    refine Ev.step (f := fun _ => some false) (fun k => ?_) ?_
    · rw [testamurref03_Has.l0, if_neg (by omega)]
    · rw [List.drop_eq_nil_of_le (by omega)]
      exact Ev.now _
  | succ d ih =>
    intro n hn hd
    have hlt : n < l.length := by omega
    rw [List.drop_eq_getElem_cons hlt, List.any_cons]
    have ew : ((n + 1 : Nat) : Int) = wrap64 ((n : Int) + 1) := by rw [wrap_id (by omega) (by omega)]; omega
    by_cases hb : hasDay a l[n] = true
    · refine Ev.step (f := fun _ => some true) (fun k => ?_) (by rw [hb]; exact Ev.now _)
      rw [testamurref03_Has.l0, if_pos (by omega), if_pos (by omega), rd_at l n hlt]
      simp only [hasDay, Bool.and_eq_true, decide_eq_true_eq] at hb
      rw [if_pos hb.1, if_pos hb.2]
    · refine Ev.step (f := fun k => testamurref03_Has.l0 k l a ((n + 1 : Nat) : Int)) (fun k => ?_) (by simp only [hb]; exact ih (n + 1) (by omega) (by omega))
      rw [testamurref03_Has.l0, if_pos (by omega), if_pos (by omega), rd_at l n hlt, ew]
      simp only [hasDay, Bool.and_eq_true, decide_eq_true_eq] at hb
      by_cases c1 : l[n].f0 ≤ a
      · rw [if_pos c1, if_neg (by omega)]
      · rw [if_neg c1]
theorem rhas_ev (l : List S31) (a : Int) (hl : l.length ≤ 9223372036854775806) : Ev (fun k => testamurref03_Has.f k l a) (decide (0 ≤ a) && decide (a < 1024) && l.any (hasDay a)) := by
  have h := rhas_l0 l a hl l.length 0 (by omega) (by omega)
  simp only [List.drop_zero] at h
  by_cases c1 : a < 0
  · refine Ev.congr (f := fun k => testamurref03_Has.j0 k l a true) (fun k => by rw [testamurref03_Has.f, if_pos c1]) ?_
    refine Ev.step (f := fun _ => some false) (fun k => by rw [testamurref03_Has.j0, if_pos rfl]) ?_
    rw [show decide (0 ≤ a) = false by simp; omega]
    exact Ev.now _
  · refine Ev.congr (f := fun k => testamurref03_Has.j0 k l a (decide (a ≥ 1024))) (fun k => by rw [testamurref03_Has.f, if_neg c1]) ?_
    by_cases c2 : a ≥ 1024
    · refine Ev.step (f := fun _ => some false) (fun k => by rw [testamurref03_Has.j0, if_pos (by simpa using c2)]) ?_
      rw [show decide (a < 1024) = false by simp; omega]
      simp only [Bool.and_false, Bool.false_and]
      exact Ev.now _
    · refine Ev.step (f := fun k => testamurref03_Has.l0 k l a 0) (fun k => by rw [testamurref03_Has.j0, if_neg (by simpa using c2)]) ?_
      rw [show decide (a < 1024) = true by simp; omega, show decide (0 ≤ a) = true by simp; omega]
      exact h
/-! ### Covers -/
/-- Are all days from x below y in f? -/
def allIn (f : Nat → Bool) : Nat → Nat → Bool
  | _, 0 => true
  | x, d + 1 => f x && allIn f (x + 1) d
theorem allIn_iff (f : Nat → Bool) : ∀ d x, allIn f x d = true ↔ ∀ m, x ≤ m → m < x + d → f m = true := by
  intro d
  induction d with
  | zero => intro x; simp [allIn]; intro m h1 h2; omega
  | succ d ih =>
    intro x
    rw [allIn, Bool.and_eq_true, ih]
    constructor
    · rintro ⟨h1, h2⟩ m h3 h4
      by_cases e : m = x
      · rw [e]; exact h1
      · exact h2 m (by omega) (by omega)
    · intro h
      exact ⟨h x (by omega) (by omega), fun m h1 h2 => h m (by omega) (by omega)⟩
theorem rcovers_l0 (f : Nat → Bool) (a b : Int) (hb : b ≤ 1024) : ∀ (d x : Nat), x + d = b.toNat → 0 ≤ b → Ev (fun k => testamurref03_Covers.l0 k (db f) (x : Int) a b) (allIn f x d) := by
  intro d
  induction d with
  | zero =>
    intro x h h0
    refine Ev.step (f := fun _ => some true) (fun k => ?_) (Ev.now _)
    rw [testamurref03_Covers.l0, if_neg (by omega)]
  | succ d ih =>
    intro x h h0
    have ew : ((x + 1 : Nat) : Int) = wrap64 ((x : Int) + 1) := by rw [wrap_id (by omega) (by omega)]; omega
    cases hf : f x
    · refine Ev.step (f := fun _ => some false) (fun k => ?_) (by rw [allIn, hf]; exact Ev.now _)
      rw [testamurref03_Covers.l0, if_pos (by omega), if_pos (by omega), if_pos (by rw [db_len]; omega), db_get _ _ (by omega) (by omega), Int.toNat_natCast, hf]
      simp
    · refine Ev.step (f := fun k => testamurref03_Covers.l0 k (db f) ((x + 1 : Nat) : Int) a b) (fun k => ?_) (by rw [allIn, hf]; exact ih (x + 1) (by omega) h0)
      rw [testamurref03_Covers.l0, if_pos (by omega), if_pos (by omega), if_pos (by rw [db_len]; omega), db_get _ _ (by omega) (by omega), Int.toNat_natCast, hf, ew]
      simp
/-- Does a list cover the days from a below b? -/
def cov (l : List S31) (a b : Int) : Bool := decide (a ≥ b) || (decide (0 ≤ a) && decide (b ≤ 1024) && allIn (inl l) a.toNat (b.toNat - a.toNat))
theorem cov_iff (l : List S31) (a b : Int) : cov l a b = true ↔ a ≥ b ∨ (0 ≤ a ∧ b ≤ 1024 ∧ ∀ m : Nat, a ≤ m → (m : Int) < b → inl l m = true) := by
  unfold cov
  rw [Bool.or_eq_true, Bool.and_eq_true, Bool.and_eq_true, allIn_iff]
  simp only [decide_eq_true_eq]
  constructor
  · rintro (h | ⟨⟨h1, h2⟩, h3⟩)
    · exact Or.inl h
    · exact Or.inr ⟨h1, h2, fun m a1 a2 => h3 m (by omega) (by omega)⟩
  · rintro (h | ⟨h1, h2, h3⟩)
    · exact Or.inl h
    · exact Or.inr ⟨⟨h1, h2⟩, fun m a1 a2 => h3 m (by omega) (by omega)⟩
theorem rcovers_ev (l : List S31) (a b : Int) (hl : l.length ≤ 9223372036854775806) : Ev (fun k => testamurref03_Covers.f k l a b) (cov l a b) := by
  by_cases c0 : a ≥ b
  · refine Ev.congr (f := fun _ => some true) (fun k => by rw [testamurref03_Covers.f, if_pos c0]) ?_
    rw [show cov l a b = true by simp [cov, c0]]
    exact Ev.now _
  · by_cases c1 : a < 0
    · refine Ev.congr (f := fun k => testamurref03_Covers.j0 k l true a b) (fun k => by rw [testamurref03_Covers.f, if_neg c0, if_pos c1]) ?_
      refine Ev.step (f := fun _ => some false) (fun k => by rw [testamurref03_Covers.j0, if_pos rfl]) ?_
      rw [show cov l a b = false by simp only [cov, Bool.or_eq_false_iff, Bool.and_eq_false_iff, decide_eq_false_iff_not]; omega]
      exact Ev.now _
    · refine Ev.congr (f := fun k => testamurref03_Covers.j0 k l (decide (b > 1024)) a b) (fun k => by rw [testamurref03_Covers.f, if_neg c0, if_neg c1]) ?_
      by_cases c2 : b > 1024
      · refine Ev.step (f := fun _ => some false) (fun k => by rw [testamurref03_Covers.j0, if_pos (by simpa using c2)]) ?_
        rw [show cov l a b = false by simp only [cov, Bool.or_eq_false_iff, Bool.and_eq_false_iff, decide_eq_false_iff_not]; omega]
        exact Ev.now _
      · refine Ev.step (f := fun k => (testamurref03_Days.f k l).bind fun t => testamurref03_Covers.l0 k t a a b) (fun k => by rw [testamurref03_Covers.j0, if_neg (by simpa using c2)]) ?_
        refine Ev.bind (days_ev l hl) ?_
        have h := rcovers_l0 (inl l) a b (by omega) (b.toNat - a.toNat) a.toNat (by omega) (by omega)
        rw [Int.toNat_of_nonneg (by omega)] at h
        rw [show cov l a b = allIn (inl l) a.toNat (b.toNat - a.toNat) by
          rw [cov, show decide (a ≥ b) = false by simp; omega, show decide (0 ≤ a) = true by simp; omega, show decide (b ≤ 1024) = true by simp; omega]
          simp]
        exact h
/-- What the program's Covers answers. -/
theorem covers_f (l : List S31) (a b : Int) : spans_Covers.f l a b = some (cov l a b) := by
  rw [spans_Covers.f]
  by_cases c0 : a ≥ b
  · rw [if_pos c0, show cov l a b = true by simp [cov, c0]]
  · rw [if_neg c0]
    by_cases c1 : a ≥ 0
    · rw [if_pos c1]
      by_cases c2 : b ≤ 1024
      · rw [if_pos c2, minus_f]
        simp only [Option.bind_some]
        congr 1
        rw [Bool.eq_iff_iff, cov_iff, beq_iff_eq]
        rw [show (((nrm fun m => inl [(⟨a, b⟩ : S31)] m && !inl l m).length : Int) = 0 ↔ (nrm fun m => inl [(⟨a, b⟩ : S31)] m && !inl l m) = []) by rw [← List.length_eq_zero_iff]; omega, nrm_nil_iff]
        constructor
        · intro h
          refine Or.inr ⟨c1, c2, fun m h1 h2 => ?_⟩
          have := h m (by omega)
          rw [inl_cons] at this
          simp only [h1, h2, decide_true, Bool.and_self, Bool.true_or, Bool.true_and, Bool.not_eq_false'] at this
          exact this
        · rintro (h | ⟨_, _, h⟩) m hm
          · exact absurd h c0
          · rw [inl_cons]
            by_cases h1 : a ≤ (m : Int) ∧ (m : Int) < b
            · rw [h m h1.1 h1.2]; simp
            · have : (decide (a ≤ (m : Int)) && decide ((m : Int) < b)) = false := by simp only [Bool.and_eq_false_iff, decide_eq_false_iff_not]; omega
              simp [this, inl]
      · rw [if_neg c2, show cov l a b = false by simp only [cov, Bool.or_eq_false_iff, Bool.and_eq_false_iff, decide_eq_false_iff_not]; omega]
    · rw [if_neg c1, show cov l a b = false by simp only [cov, Bool.or_eq_false_iff, Bool.and_eq_false_iff, decide_eq_false_iff_not]; omega]
end Go.Proofs.Ytcemfklhbgnflaa.P
