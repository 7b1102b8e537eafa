/- What the reference of chapter 3 computes, in plain Lean. -/
import Derived.Test.YtcemfklhbgnflaaM
namespace Go.Proofs.Ytcemfklhbgnflaa.P
open Go.RowKit Go.Proofs.YtcemfklhbgnflaaW.PrintWords Go.Proofs.YtcemfklhbgnflaaW.PrintLast Go.Proofs.YtcemfklhbgnflaaO
set_option linter.unusedVariables false

/-! ### Days -/
def db (f : Nat → Bool) : List Bool := (List.range 1024).map f
theorem db_len (f : Nat → Bool) : (db f).length = 1024 := by simp [db]
theorem db_get (f : Nat → Bool) (i : Int) (h0 : 0 ≤ i) (h : i < 1024) : rdOf false (db f) i = f i.toNat := by
  have : i.toNat < 1024 := by omega
  simp [rdOf, db, List.getD_eq_getElem?_getD, this]
theorem db_congr {f g : Nat → Bool} (h : ∀ m, m < 1024 → f m = g m) : db f = db g := by
  unfold db
  apply List.map_congr_left
  intro m hm
  exact h m (by simpa using hm)
theorem db_set (f : Nat → Bool) (m : Nat) (b : Bool) : (db f).set m b = db (fun x => if x = m then b else f x) := by
  apply List.ext_getElem?
  intro i
  by_cases hi : i < 1024
  · by_cases e : m = i
    · subst e
      rw [List.getElem?_set_self (by simp [db]; exact hi)]
      simp [db, hi]
    · rw [List.getElem?_set_ne e]
      simp [db, hi, Ne.symm e]
  · rw [List.getElem?_eq_none (by simp [db]; omega), List.getElem?_eq_none (by simp [db]; omega)]
theorem db_zero : List.replicate 1024 false = db (fun _ => false) := by
  unfold db
  rw [List.map_const']
  simp
theorem days_l1 (l : List S31) (i : Int) (hi : 0 ≤ i) (hl : i < l.length) : ∀ (d : Nat) (x : Int) (F : Nat → Bool) (r : List Bool), 0 ≤ x → (1024 - x).toNat ≤ d →
    Ev (fun k => testamurref03_Days.l0 k l (db fun m => F m || (decide (x ≤ (m : Int)) && decide ((m : Int) < (rd_T31 l i).f1))) (wrap64 (i + 1))) r → Ev (fun k => testamurref03_Days.l1 k l (db F) i x) r := by
  intro d
  induction d with
  | zero =>
    intro x F r h0 hd h
    refine Ev.step (f := fun k => testamurref03_Days.l0 k l (db F) (wrap64 (i + 1))) (fun k => ?_) ?_
    · rw [testamurref03_Days.l1, if_pos hi, if_pos hl, if_neg (by unfold mn; split <;> omega)]
    · have : (db fun m => F m || (decide (x ≤ (m : Int)) && decide ((m : Int) < (rd_T31 l i).f1))) = db F := db_congr fun m hm => by
        have : ¬ x ≤ (m : Int) := by omega
        simp [this]
      rw [this] at h
      exact h
  | succ d ih =>
    intro x F r h0 hd h
    by_cases hx : x < mn ((rd_T31 l i).f1) 1024
    · have hx1 : x < 1024 := by unfold mn at hx; split at hx <;> omega
      have hx2 : x < (rd_T31 l i).f1 := by unfold mn at hx; split at hx <;> omega
      refine Ev.step (f := fun k => testamurref03_Days.l1 k l (db (fun y => if y = x.toNat then true else F y)) i (x + 1)) (fun k => ?_) ?_
      · rw [testamurref03_Days.l1, if_pos hi, if_pos hl, if_pos hx, if_pos h0, if_pos (by rw [db_len]; exact hx1), db_set, wrap_id (by omega) (by omega)]
      · refine ih (x + 1) _ r (by omega) (by omega) ?_
        have : (db fun m => (if m = x.toNat then true else F m) || (decide (x + 1 ≤ (m : Int)) && decide ((m : Int) < (rd_T31 l i).f1))) = db fun m => F m || (decide (x ≤ (m : Int)) && decide ((m : Int) < (rd_T31 l i).f1)) := db_congr fun m hm => by
          by_cases e : m = x.toNat
          · have h1 : x ≤ (m : Int) := by omega
            have h2 : (m : Int) < (rd_T31 l i).f1 := by omega
            simp [e] at h1 h2 ⊢
            right
            constructor <;> omega
          · have : decide (x + 1 ≤ (m : Int)) = decide (x ≤ (m : Int)) := by
              by_cases h1 : x ≤ (m : Int)
              · simp [h1]; omega
              · simp [h1]; omega
            rw [if_neg e, this]
        rw [this]
        exact h
    · refine Ev.step (f := fun k => testamurref03_Days.l0 k l (db F) (wrap64 (i + 1))) (fun k => ?_) ?_
      · rw [testamurref03_Days.l1, if_pos hi, if_pos hl, if_neg hx]
      · have : (db fun m => F m || (decide (x ≤ (m : Int)) && decide ((m : Int) < (rd_T31 l i).f1))) = db F := db_congr fun m hm => by
          have h3 : 1024 ≤ x ∨ (rd_T31 l i).f1 ≤ x := by unfold mn at hx; split at hx <;> omega
          have : ¬ (x ≤ (m : Int) ∧ (m : Int) < (rd_T31 l i).f1) := by omega
          by_cases h1 : x ≤ (m : Int)
          · have h2 : ¬ (m : Int) < (rd_T31 l i).f1 := fun h => this ⟨h1, h⟩
            simp [h2]
          · simp [h1]
        rw [this] at h
        exact h
theorem days_l0 (l : List S31) (hl : l.length ≤ 9223372036854775806) : ∀ (d n : Nat), n ≤ l.length → l.length - n = d → Ev (fun k => testamurref03_Days.l0 k l (db (inl (l.take n))) (n : Int)) (db (inl l)) := by
  intro d
  induction d with
  | zero =>
    intro n hn hd
    refine ⟨1, fun k hk => ?_⟩
    obtain ⟨k, rfl⟩ : ∃ q, k = q + 1 := ⟨k - 1, by omega⟩
    show testamurref03_Days.l0 (k + 1) _ _ _ = _
    rw [testamurref03_Days.l0, if_neg (by omega), List.take_of_length_le (by omega)]
  | succ d ih =>
    intro n hn hd
    refine Ev.step (f := fun k => testamurref03_Days.l1 k l (db (inl (l.take n))) n (mx ((rd_T31 l n).f0) 0)) (fun k => ?_) ?_
    · rw [testamurref03_Days.l0, if_pos (by omega), if_pos (by omega)]
    · refine days_l1 l n (by omega) (by omega) _ _ _ _ (by unfold mx; split <;> omega) (Nat.le_refl _) ?_
      rw [wrap_id (by omega) (by omega), rd_at l n (by omega)]
      have e : (db fun m => inl (l.take n) m || (decide (mx (l[n]'(by omega)).f0 0 ≤ (m : Int)) && decide ((m : Int) < (l[n]'(by omega)).f1))) = db (inl (l.take (n + 1))) := db_congr fun m hm => by
        rw [inl_snoc l n (by omega)]
        have : decide (mx (l[n]'(by omega)).f0 0 ≤ (m : Int)) = decide ((l[n]'(by omega)).f0 ≤ (m : Int)) := by
          unfold mx
          split
          · rename_i h
            simp
            omega
          · rfl
        rw [this]
      rw [e]
      exact ih (n + 1) (by omega) (by omega)
theorem days_ev (l : List S31) (hl : l.length ≤ 9223372036854775806) : Ev (fun k => testamurref03_Days.f k l) (db (inl l)) := by
  have h := days_l0 l hl l.length 0 (by omega) (by omega)
  refine Ev.congr (f := fun k => testamurref03_Days.l0 k l (db (inl (l.take 0))) ((0 : Nat) : Int)) (fun k => ?_) h
  show (if 1024 ≤ 281474976710656 then _ else none) = _
  rw [if_pos (by decide), db_zero]
  rfl

/-! ### Spans -/
theorem Nrm.snoc {L : List S31} {lo : Int} {s : S31} (h : Nrm lo L) (h1 : lo ≤ s.f0) (h2 : s.f0 < s.f1) (h3 : s.f1 ≤ 1024) (hl : ∀ x ∈ L, x.f1 + 1 ≤ s.f0) : Nrm lo (L ++ [s]) := by
  induction L generalizing lo with
  | nil => exact ⟨h1, h2, h3, trivial⟩
  | cons x L ih => exact ⟨h.1, h.2.1, h.2.2.1, ih h.2.2.2 (hl x (by simp)) (fun y hy => hl y (by simp [hy]))⟩
theorem Nrm.low {L : List S31} {lo : Int} (h : Nrm lo L) : ∀ x ∈ L, lo ≤ x.f0 ∧ x.f0 < x.f1 ∧ x.f1 ≤ 1024 := by
  induction L generalizing lo with
  | nil => intro x hx; simp at hx
  | cons y L ih =>
    intro x hx
    rcases List.mem_cons.1 hx with rfl | hx
    · exact ⟨h.1, h.2.1, h.2.2.1⟩
    · have := ih h.2.2.2 x hx
      have h1 := h.1
      have h2 := h.2.1
      exact ⟨by omega, this.2.1, this.2.2⟩
theorem inl_append (L : List S31) (s : S31) (m : Nat) : inl (L ++ [s]) m = (inl L m || (decide (s.f0 ≤ (m : Int)) && decide ((m : Int) < s.f1))) := by
  unfold inl
  rw [List.any_append]
  simp
theorem Nrm.init {L : List S31} {lo : Int} {s : S31} (h : Nrm lo (L ++ [s])) : Nrm lo L ∧ lo ≤ s.f0 ∧ s.f0 < s.f1 ∧ s.f1 ≤ 1024 ∧ ∀ x ∈ L, x.f1 + 1 ≤ s.f0 := by
  induction L generalizing lo with
  | nil => exact ⟨trivial, h.1, h.2.1, h.2.2.1, fun x hx => by simp at hx⟩
  | cons x L ih =>
    obtain ⟨a, b, c, d⟩ := h
    obtain ⟨e1, e2, e3, e4, e5⟩ := ih d
    refine ⟨⟨a, b, c, e1⟩, by omega, e3, e4, fun y hy => ?_⟩
    rcases List.mem_cons.1 hy with rfl | hy
    · exact e2
    · exact e5 y hy
/-- What is covered lies below i: so do all ends. -/
theorem ends_le {L : List S31} {lo : Int} {i : Nat} (h : Nrm lo L) (h0 : 0 ≤ lo) (hi : ∀ m, i ≤ m → m < 1024 → inl L m = false) : ∀ x ∈ L, x.f1 ≤ i := by
  intro x hx
  obtain ⟨h1, h2, h3⟩ := h.low x hx
  apply Classical.byContradiction
  intro hc
  have := hi (x.f1 - 1).toNat (by omega) (by omega)
  have h4 : inl L (x.f1 - 1).toNat = true := by
    unfold inl
    rw [List.any_eq_true]
    exact ⟨x, hx, by simp; omega⟩
  rw [h4] at this
  cases this
def upto (f : Nat → Bool) (i : Nat) : Nat → Bool := fun m => decide (m < i) && f m
theorem spans_l0 (f : Nat → Bool) : ∀ (d n : Nat), n ≤ 1024 → 1024 - n = d → Ev (fun k => testamurref03_Spans.l0 k (db f) (nrm (upto f n)) (n : Int)) (nrm f) := by
  intro d
  induction d with
  | zero =>
    intro n hn hd
    refine ⟨1, fun k hk => ?_⟩
    obtain ⟨k, rfl⟩ : ∃ q, k = q + 1 := ⟨k - 1, by omega⟩
    show testamurref03_Spans.l0 (k + 1) _ _ _ = _
    rw [testamurref03_Spans.l0, if_neg (by rw [db_len]; omega)]
    rw [nrm_congr (g := f) (fun m hm => by simp [upto]; omega)]
  | succ d ih =>
    intro n hn hd
    have hlen := nrm_len (upto f n)
    have hN := nrm_nrm (upto f n)
    have hin : ∀ m, m < 1024 → inl (nrm (upto f n)) m = upto f n m := nrm_in _
    generalize hL : nrm (upto f n) = L at *
    have hends := ends_le hN (Int.le_refl 0) (i := n) (fun m h1 h2 => by rw [hin m h2]; simp [upto]; omega)
    have go : ∀ L', L' = nrm (upto f (n + 1)) → Ev (fun k => testamurref03_Spans.l0 k (db f) L' (wrap64 ((n : Int) + 1))) (nrm f) := by
      intro L' e
      rw [e, wrap_id (by omega) (by omega)]
      exact ih (n + 1) (by omega) (by omega)
    by_cases hf : f n = true
    · by_cases hz : L = []
      · refine Ev.step (f := fun k => testamurref03_Spans.l0 k (db f) (L ++ [⟨n, wrap64 ((n : Int) + 1)⟩]) (wrap64 ((n : Int) + 1))) (fun k => ?_) (go _ ?_)
        · rw [testamurref03_Spans.l0, if_pos (by rw [db_len]; omega), if_pos (by omega), db_get f n (by omega) (by omega)]
          simp only [Int.toNat_natCast]
          rw [if_pos hf, hz]
          simp
        · rw [wrap_id (by omega) (by omega)]
          refine nrm_of (hN.snoc (by simp) (by simp; omega) (by simp; omega) (fun x hx => by rw [hz] at hx; simp at hx)) (fun m hm => ?_)
          rw [inl_append, hin m hm]
          by_cases e : m = n
          · subst e; simp [upto, hf]; omega
          · by_cases c : m < n
            · simp [upto, c, show m < n + 1 by omega, show ¬ n ≤ m by omega]
            · simp [upto, c, show ¬ m < n + 1 by omega]; omega
      · obtain ⟨L0, s, rfl⟩ : ∃ L0 s, L = L0 ++ [s] := ⟨L.dropLast, L.getLast hz, (List.dropLast_concat_getLast hz).symm⟩
        have hw : wrap64 (((L0 ++ [s]).length : Int) - 1) = (L0.length : Int) := by rw [wrap_id (by simp; try omega) (by simp at hlen ⊢; omega)]; simp
        have hrd : rd_T31 (L0 ++ [s]) (L0.length : Int) = s := by simp [rd_T31]
        obtain ⟨i1, i2, i3, i4, i5⟩ := hN.init
        have hse := hends s (by simp)
        by_cases hs : s.f1 = (n : Int)
        · refine Ev.step (f := fun k => testamurref03_Spans.l0 k (db f) (L0 ++ [⟨s.f0, wrap64 ((n : Int) + 1)⟩]) (wrap64 ((n : Int) + 1))) (fun k => ?_) (go _ ?_)
          · rw [testamurref03_Spans.l0, if_pos (by rw [db_len]; omega), if_pos (by omega), db_get f n (by omega) (by omega)]
            simp only [Int.toNat_natCast]
            rw [if_pos hf, if_pos (by simp; try omega), hw, if_pos (by omega), if_pos (by simp; omega), hrd, if_pos hs]
            simp
          · rw [wrap_id (by omega) (by omega)]
            refine nrm_of (i1.snoc i2 (by simp; omega) (by simp; omega) i5) (fun m hm => ?_)
            have := hin m hm
            rw [inl_append] at this ⊢
            by_cases e : m = n
            · subst e
              have h1 : s.f0 ≤ (m : Int) := by omega
              have h2 : (m : Int) < (m : Int) + 1 := by omega
              simp [upto, hf, h1, h2]
            · have h1 : decide ((m : Int) < (n : Int) + 1) = decide ((m : Int) < s.f1) := by
                by_cases c : (m : Int) < s.f1
                · simp [c]; omega
                · simp [c]; omega
              simp only [h1]
              rw [this]
              by_cases c : m < n
              · simp [upto, c, show m < n + 1 by omega]
              · simp [upto, c, show ¬ m < n + 1 by omega]
        · refine Ev.step (f := fun k => testamurref03_Spans.l0 k (db f) ((L0 ++ [s]) ++ [⟨n, wrap64 ((n : Int) + 1)⟩]) (wrap64 ((n : Int) + 1))) (fun k => ?_) (go _ ?_)
          · rw [testamurref03_Spans.l0, if_pos (by rw [db_len]; omega), if_pos (by omega), db_get f n (by omega) (by omega)]
            simp only [Int.toNat_natCast]
            rw [if_pos hf, if_pos (by simp; try omega), hw, if_pos (by omega), if_pos (by simp; omega), hrd, if_neg hs, if_pos (by omega)]
          · rw [wrap_id (by omega) (by omega)]
            refine nrm_of (hN.snoc (by simp) (by simp; omega) (by simp; omega) (fun x hx => ?_)) (fun m hm => ?_)
            · rcases List.mem_append.1 hx with hx | hx
              · have := i5 x hx
                simp
                omega
              · simp at hx
                subst hx
                simp
                omega
            · rw [inl_append, hin m hm]
              by_cases e : m = n
              · subst e
                have h2 : (m : Int) < (m : Int) + 1 := by omega
                simp [upto, hf, h2]
              · by_cases c : m < n
                · simp [upto, c, show m < n + 1 by omega, show ¬ n ≤ m by omega]
                · simp [upto, c, show ¬ m < n + 1 by omega]; omega
    · refine Ev.step (f := fun k => testamurref03_Spans.l0 k (db f) L (wrap64 ((n : Int) + 1))) (fun k => ?_) (go _ ?_)
      · rw [testamurref03_Spans.l0, if_pos (by rw [db_len]; omega), if_pos (by omega), db_get f n (by omega) (by omega)]
        simp only [Int.toNat_natCast]
        rw [if_neg hf]
      · rw [← hL]
        refine nrm_congr fun m hm => ?_
        by_cases e : m = n
        · subst e; simp at hf; simp [upto, hf]
        · by_cases c : m < n
          · simp [upto, c, show m < n + 1 by omega]
          · simp [upto, c, show ¬ m < n + 1 by omega]
theorem spans_ev (f : Nat → Bool) : Ev (fun k => testamurref03_Spans.f k (db f)) (nrm f) := by
  have h := spans_l0 f 1024 0 (by omega) (by omega)
  rw [nrm_nil (f := upto f 0) (fun m _ => by simp [upto])] at h
  exact h
theorem rnormal_ev (l : List S31) (hl : l.length ≤ 9223372036854775806) : Ev (fun k => testamurref03_Normal.f k l) (nrm (inl l)) :=
  Ev.bind (days_ev l hl) (Ev.bind (f := fun _ t => some t) (spans_ev (inl l)) (Ev.now _))
end Go.Proofs.Ytcemfklhbgnflaa.P
