/- Normal lists of days, in plain Lean: what a list covers fixes its normal list; the reference's own way comes to it too. -/
import Derived.Test.YtcemfklhbgnflaaP
import Derived.Test.YtcemfklhbgnflaaT
namespace Go.Proofs.Ytcemfklhbgnflaa.P
open Go.RowKit Go.Proofs.YtcemfklhbgnflaaW.PrintWords Go.Proofs.YtcemfklhbgnflaaW.PrintLast Go.Proofs.YtcemfklhbgnflaaO
set_option linter.unusedVariables false

/-! ### Normal lists -/
def Nrm : Int → List S31 → Prop
  | _, [] => True
  | lo, s :: l => lo ≤ s.f0 ∧ s.f0 < s.f1 ∧ s.f1 ≤ 1024 ∧ Nrm (s.f1 + 1) l
theorem Nrm.mono {lo lo' : Int} {l : List S31} (h : Nrm lo l) (hl : lo' ≤ lo) : Nrm lo' l := by
  cases l with
  | nil => trivial
  | cons s l => exact ⟨Int.le_trans hl h.1, h.2⟩
theorem inl_cons (s : S31) (l : List S31) (m : Nat) : inl (s :: l) m = ((decide (s.f0 ≤ (m : Int)) && decide ((m : Int) < s.f1)) || inl l m) := rfl
theorem inl_low {lo : Int} {l : List S31} (h : Nrm lo l) (m : Nat) (hm : (m : Int) < lo) : inl l m = false := by
  induction l generalizing lo with
  | nil => rfl
  | cons s l ih =>
    obtain ⟨h1, h2, h3, h4⟩ := h
    rw [inl_cons, ih h4 (by omega)]
    simp
    omega
theorem runEnd_in (f : Nat → Bool) : ∀ k m x, m ≤ x → x < runEnd f k m → f x = true := by
  intro k
  induction k with
  | zero => intro m x h h'; simp [runEnd] at h'; omega
  | succ k ih =>
    intro m x h h'
    rw [runEnd] at h'
    split at h'
    · split at h'
      · rename_i hf
        by_cases e : x = m
        · rw [e]; exact hf
        · exact ih (m + 1) x (by omega) h'
      · omega
    · omega
theorem runEnd_end (f : Nat → Bool) : ∀ k m, 1024 ≤ m + k → runEnd f k m < 1024 → f (runEnd f k m) = false := by
  intro k
  induction k with
  | zero => intro m h h'; simp [runEnd] at h'; omega
  | succ k ih =>
    intro m h h'
    rw [runEnd] at h' ⊢
    split
    · rename_i h1
      rw [if_pos h1] at h'
      split
      · rename_i h2
        rw [if_pos h2] at h'
        exact ih (m + 1) (by omega) h'
      · rename_i h2
        simpa using h2
    · rename_i h1
      rw [if_neg h1] at h'
      omega
theorem spG_nrm (f : Nat → Bool) : ∀ (k m : Nat), Nrm (m : Int) (spG f k m) := by
  intro k
  induction k with
  | zero => intro m; trivial
  | succ k ih =>
    intro m
    rw [spG]
    split
    · split
      · have h1 := runEnd_ge f 1024 (m + 1)
        have h2 := runEnd_le f 1024 (m + 1) (by omega)
        exact ⟨by simp, by simp; omega, by simp; omega, by simpa using ih (runEnd f 1024 (m + 1) + 1)⟩
      · exact (ih (m + 1)).mono (by simp; omega)
    · trivial
theorem spG_in (f : Nat → Bool) : ∀ k m, 1025 ≤ m + k → ∀ x, x < 1024 → inl (spG f k m) x = (decide (m ≤ x) && f x) := by
  intro k
  induction k with
  | zero => intro m h x hx; have : ¬ m ≤ x := by omega
            simp [spG, inl, this]
  | succ k ih =>
    intro m h x hx
    rw [spG]
    split
    · rename_i hm
      split
      · rename_i hf
        have h1 := runEnd_ge f 1024 (m + 1)
        have h2 := runEnd_le f 1024 (m + 1) (by omega)
        have hin := runEnd_in f 1024 (m + 1) x
        have hend := runEnd_end f 1024 (m + 1) (by omega)
        have hih := ih (runEnd f 1024 (m + 1) + 1) (by omega) x hx
        generalize runEnd f 1024 (m + 1) = t at *
        rw [inl_cons, hih]
        by_cases c1 : m ≤ x
        · by_cases c2 : x < t
          · have : f x = true := by
              by_cases c3 : x = m
              · rw [c3]; exact hf
              · exact hin (by omega) c2
            have c4 : (x : Int) < (t : Int) := by omega
            have c5 : (m : Int) ≤ (x : Int) := by omega
            simp [c1, c2, this]
          · by_cases c3 : x = t
            · subst c3
              simp [hend hx]
            · have c6 : t + 1 ≤ x := by omega
              simp [c1, c2, c6]
        · have c6 : ¬ t + 1 ≤ x := by omega
          simp [c1, c6]
      · rename_i hf
        rw [ih (m + 1) (by omega) x hx]
        by_cases c1 : x = m
        · subst c1; simp at hf; simp [hf]
        · by_cases c2 : m ≤ x
          · simp [c2, show m + 1 ≤ x by omega]
          · simp [c2, show ¬ m + 1 ≤ x by omega]
    · have : ¬ m ≤ x := by omega
      simp [inl, this]
theorem nrm_nrm (f : Nat → Bool) : Nrm 0 (nrm f) := spG_nrm f 1025 0
theorem nrm_in (f : Nat → Bool) (x : Nat) (hx : x < 1024) : inl (nrm f) x = f x := by
  have := spG_in f 1025 0 (by omega) x hx
  simpa [nrm] using this
/-- What is covered fixes the list. -/
theorem Nrm.unique {l l' : List S31} {lo lo' : Int} (h : Nrm lo l) (h' : Nrm lo' l') (h0 : 0 ≤ lo) (h0' : 0 ≤ lo') (he : ∀ m, m < 1024 → inl l m = inl l' m) : l = l' := by
  induction l generalizing lo lo' l' with
  | nil =>
    cases l' with
    | nil => rfl
    | cons s l' =>
      obtain ⟨h1, h2, h3, h4⟩ := h'
      have := he s.f0.toNat (by omega)
      rw [inl_cons] at this
      simp [inl, show s.f0 ≤ (s.f0.toNat : Int) by omega, show (s.f0.toNat : Int) < s.f1 by omega] at this
      omega
  | cons s l ih =>
    cases l' with
    | nil =>
      obtain ⟨h1, h2, h3, h4⟩ := h
      have := he s.f0.toNat (by omega)
      rw [inl_cons] at this
      simp [inl, show s.f0 ≤ (s.f0.toNat : Int) by omega, show (s.f0.toNat : Int) < s.f1 by omega] at this
      omega
    | cons s' l' =>
      obtain ⟨h1, h2, h3, h4⟩ := h
      obtain ⟨h1', h2', h3', h4'⟩ := h'
      have in1 : ∀ m : Nat, s.f0 ≤ m → (m : Int) < s.f1 → inl (s :: l) m = true := fun m a b => by rw [inl_cons]; simp [a, b]
      have in2 : ∀ m : Nat, s'.f0 ≤ m → (m : Int) < s'.f1 → inl (s' :: l') m = true := fun m a b => by rw [inl_cons]; simp [a, b]
      have out1 : ∀ m : Nat, (m : Int) < s.f0 ∨ (m : Int) = s.f1 → inl (s :: l) m = false := fun m a => by
        rw [inl_cons, inl_low h4 m (by omega)]
        simp
        omega
      have out2 : ∀ m : Nat, (m : Int) < s'.f0 ∨ (m : Int) = s'.f1 → inl (s' :: l') m = false := fun m a => by
        rw [inl_cons, inl_low h4' m (by omega)]
        simp
        omega
      have e0 : s.f0 = s'.f0 := by
        rcases Int.lt_trichotomy s.f0 s'.f0 with c | c | c
        · have := he s.f0.toNat (by omega)
          rw [in1 _ (by omega) (by omega), out2 _ (by omega)] at this
          cases this
        · exact c
        · have := he s'.f0.toNat (by omega)
          rw [in2 _ (by omega) (by omega), out1 _ (by omega)] at this
          cases this
      have e1 : s.f1 = s'.f1 := by
        rcases Int.lt_trichotomy s.f1 s'.f1 with c | c | c
        · have := he s.f1.toNat (by omega)
          rw [in2 _ (by omega) (by omega), out1 _ (by omega)] at this
          cases this
        · exact c
        · have := he s'.f1.toNat (by omega)
          rw [in1 _ (by omega) (by omega), out2 _ (by omega)] at this
          cases this
      have es : s = s' := by cases s; cases s'; simp_all
      subst es
      rw [ih h4 h4' (by omega) (by omega) (fun m hm => ?_)]
      by_cases c : (m : Int) < s.f1 + 1
      · rw [inl_low h4 m c, inl_low h4' m c]
      · have := he m hm
        rw [inl_cons, inl_cons] at this
        simpa [show ¬ (m : Int) < s.f1 by omega] using this
theorem nrm_of {l : List S31} {f : Nat → Bool} (h : Nrm 0 l) (he : ∀ m, m < 1024 → inl l m = f m) : l = nrm f :=
  h.unique (nrm_nrm f) (Int.le_refl 0) (Int.le_refl 0) (fun m hm => (he m hm).trans (nrm_in f m hm).symm)
theorem nrm_len (f : Nat → Bool) : (nrm f).length ≤ 1025 := spG_len f 1025 0 (by omega)
theorem nrm_nil {f : Nat → Bool} (h : ∀ m, m < 1024 → f m = false) : nrm f = [] := ((nrm_of (l := []) trivial (fun m hm => (h m hm).symm))).symm
theorem nrm_nil_iff {f : Nat → Bool} : nrm f = [] ↔ ∀ m, m < 1024 → f m = false := by
  refine ⟨fun h m hm => ?_, nrm_nil⟩
  rw [← nrm_in f m hm, h]
  rfl

/-! ### The given functions -/
theorem wrap_id {x : Int} (h : -9223372036854775808 ≤ x) (h' : x ≤ 9223372036854775807) : wrap64 x = x := by unfold wrap64; omega
theorem union_f (a b : List S31) : spans_Union.f a b = some (nrm fun m => inl a m || inl b m) := rfl
theorem meet_f (a b : List S31) : spans_Meet.f a b = some (nrm fun m => inl a m && inl b m) := rfl
theorem minus_f (a b : List S31) : spans_Minus.f a b = some (nrm fun m => inl a m && !inl b m) := rfl
theorem normal_f (a : List S31) : spans_Normal.f a = some (nrm (inl a)) := by
  show some (nrm fun m => inl a m || inl [] m) = _
  congr 2
  funext m
  simp [inl]
/-! ### Same, of equal lists -/
theorem same_loop (l : List S31) (hl : l.length ≤ 9223372036854775806) : ∀ (k : Nat) (i : Int), 0 ≤ i → i ≤ l.length → (l.length : Int) - i < (k : Int) → testamurref03_Same.l0 k l l i = some true := by
  intro k
  induction k with
  | zero => intro i h0 hi hk; omega
  | succ k ih =>
    intro i h0 hi hk
    rw [testamurref03_Same.l0]
    by_cases hi : i < (l.length : Int)
    · rw [if_pos hi, if_pos h0, if_pos hi, if_neg (by simp), wrap_id (by omega) (by omega)]
      exact ih (i + 1) (by omega) (by omega) (by omega)
    · rw [if_neg hi]
theorem same_ev (l : List S31) (hl : l.length ≤ 9223372036854775806) : Ev (fun k => testamurref03_Same.f k l l) true :=
  ⟨l.length + 1, fun k hk => by
    show (if (l.length : Int) = (l.length : Int) then testamurref03_Same.l0 k l l 0 else some false) = some true
    rw [if_pos rfl]
    exact same_loop l hl k 0 (by omega) (by omega) (by omega)⟩
theorem same_nrm {f g : Nat → Bool} (h : ∀ m, m < 1024 → f m = g m) : Ev (fun k => testamurref03_Same.f k (nrm f) (nrm g)) true := by
  rw [nrm_congr h]
  exact same_ev _ (by have := nrm_len g; omega)
theorem same_at (f : Nat → Bool) (k : Nat) (hk : 1026 ≤ k) : testamurref03_Same.f k (nrm f) (nrm f) = some true := by
  show (if ((nrm f).length : Int) = ((nrm f).length : Int) then testamurref03_Same.l0 k (nrm f) (nrm f) 0 else some false) = some true
  rw [if_pos rfl]
  have := nrm_len f
  exact same_loop _ (by omega) k 0 (by omega) (by omega) (by omega)
theorem sane_ev : Ev testamurlaw03_sane.f true := Ev.of (testamurlaw03_sane.mono) (k := 12) (by decide +kernel)
end Go.Proofs.Ytcemfklhbgnflaa.P
