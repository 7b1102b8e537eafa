/- Plain laws of chapter 13: Closure and Implied, of the program and of the reference: what follows from some fields. -/
import Derived.Test.YtfbcjeknibfjcaaP5
import Derived.Test.YtfbcjeknibfjcaaP11
import Derived.Test.YtfbcjeknibfjcaaM3
namespace Go.Proofs.Ytfbcjeknibfjcaa.P
open Go.RowKit Go.Proofs.YtfbcjeknibfjcaaW.PrintWords Go.Proofs.YtfbcjeknibfjcaaW.PrintLast Go.Proofs.YtfbcjeknibfjcaaW.PrintMore
set_option linter.unusedVariables false

/-- The fields below n that meet p, in order. -/
def fl (p : Int → Bool) (n : Nat) : List Int := ((List.range n).map fun i : Nat => (i : Int)).filter p
def flF (p : Int → Bool) (i m : Nat) : List Int := ((List.range' i m).map fun i : Nat => (i : Int)).filter p
theorem fl_eq (p : Int → Bool) (n : Nat) : fl p n = flF p 0 n := by rw [fl, flF, List.range_eq_range']
theorem fl_congr {p q : Int → Bool} {n : Nat} (h : ∀ f : Int, 0 ≤ f → f < n → p f = q f) : fl p n = fl q n := by
 unfold fl
 apply List.filter_congr
 intro f hf
 simp only [List.mem_map, List.mem_range] at hf
 obtain ⟨i, hi, rfl⟩ := hf
 exact h i (by omega) (by omega)
theorem flF_succ (p : Int → Bool) (i m : Nat) : flF p i (m + 1) = (if p i = true then [(i : Int)] else []) ++ flF p (i + 1) m := by
 unfold flF
 rw [List.range'_succ, List.map_cons, List.filter_cons]
 split <;> simp
theorem flF_len (p : Int → Bool) (i m : Nat) : (flF p i m).length ≤ m := by
 unfold flF
 refine Nat.le_trans (List.length_filter_le _ _) ?_
 simp
theorem mem_fl {p : Int → Bool} {n : Nat} {f : Int} : f ∈ fl p n ↔ 0 ≤ f ∧ f < n ∧ p f = true := by
 unfold fl
 simp only [List.mem_filter, List.mem_map, List.mem_range]
 constructor
 ·rintro ⟨⟨i, hi, rfl⟩, hp⟩
  exact ⟨by omega, by omega, hp⟩
 ·rintro ⟨h0, h1, hp⟩
  exact ⟨⟨f.toNat, by omega, by omega⟩, hp⟩
def inR (n : Nat) (l : List Int) : Bool := l.all fun f => !outF n f
theorem inR_iff {n : Nat} {l : List Int} : inR n l = true ↔ ∀ f ∈ l, 0 ≤ f ∧ f < n := by
 unfold inR
 rw [List.all_eq_true]
 refine forall_congr' fun f => forall_congr' fun _ => ?_
 rw [outF_eq]
 simp
open Classical in
/-- What follows from some fields, in order. -/
noncomputable def closL (n : Nat) (ds : List S29) (l : List Int) : List Int := fl (fun f => decide (Cl ds (· ∈ l) f)) n
noncomputable def closV (n : Nat) (ds : List S29) (l : List Int) : List Int × Int := if chk n ds = true then (if inR n l = true then (closL n ds l, 0) else ([], 130)) else ([], 130)
open Classical in
noncomputable def implV (n : Nat) (ds : List S29) (l : List Int) (tx : Int) : Bool × Int := if chk n ds = true then (if vld n l tx = true then (decide (Cl ds (· ∈ l) tx), 0) else (false, 130)) else (false, 130)
theorem chk_n {n : Nat} {ds : List S29} (h : chk n ds = true) : n ≤ 12 ∧ ds.length ≤ 12 := by
 simp only [chk, Bool.and_eq_true, decide_eq_true_eq] at h
 exact ⟨h.2.1, h.2.2.1⟩
theorem chk_all {n : Nat} {ds : List S29} (h : chk n ds = true) : ∀ d ∈ ds, vld n d.f2 d.f3 = true := by
 intro d hd
 obtain ⟨k, hk, rfl⟩ := List.getElem_of_mem hd
 have := chk_vld h k hk
 rwa [rd_at29 ds k hk] at this
theorem chk_in {n : Nat} {ds : List S29} (h : chk n ds = true) : In16 ds := by
 intro d hd
 have hv := chk_all h d hd
 have hn := (chk_n h).1
 exact ⟨fun f hf => ⟨(vld_from hv f hf).1, by have := (vld_from hv f hf).2; omega⟩, (vld_to hv).1, by have := (vld_to hv).2; omega⟩
theorem bit_wm {l : List Int} (hl : ∀ f ∈ l, 0 ≤ f) (f : Int) : BitS (wm 0 l) f ↔ f ∈ l := by
 unfold BitS
 rw [wm_bit]
 simp only [Nat.zero_testBit, Bool.false_or, List.any_eq_true, beq_iff_eq]
 constructor
 ·rintro ⟨h0, g, hg, e⟩
  have := hl g hg
  rwa [show f = g by omega]
 ·intro h
  exact ⟨hl f h, f, h, rfl⟩
theorem closed_of (a b : ByteArray) (c d : Int) (l4 : List S97) {ds : List S29} {n : Nat} (hc : chk n ds = true) (hb : Bd ds) {l : List Int} (hl : ∀ f ∈ l, 0 ≤ f ∧ f < n) :
  ∃ m' : Nat, m' < 65536 ∧ Ev (fun k => depends_closed.f k a b c d l4 ds ((wm 0 l : Nat) : Int)) (m' : Int) ∧ ∀ f : Int, 0 ≤ f → (m'.testBit f.toNat = true ↔ Cl ds (· ∈ l) f) := by
 have hn := (chk_n hc).1
 obtain ⟨m', h1, h2, h3⟩ := closed_ev a b c d l4 (chk_in hc) hb (wm_lt (l := l) (m := 0) (by decide) (fun f hf => ⟨(hl f hf).1, by have := (hl f hf).2; omega⟩))
 refine ⟨m', h1, h2, fun f hf => (h3 f hf).trans ⟨fun h => h.mono fun g hg => (bit_wm (fun f hf => (hl f hf).1) g).1 hg, fun h => h.mono fun g hg => (bit_wm (fun f hf => (hl f hf).1) g).2 hg⟩⟩
theorem bit_one {m : Nat} {f : Int} (h : 0 ≤ f) : sub m (0 ||| 2 ^ f.toNat) = m.testBit f.toNat := by
 rw [Bool.eq_iff_iff, sub_iff]
 constructor
 ·intro h1
  refine h1 f.toNat ?_
  rw [Nat.testBit_or, Nat.testBit_two_pow]
  simp
 ·intro h1 i hi
  rw [Nat.testBit_or, Nat.testBit_two_pow] at hi
  simp at hi
  rw [← hi]
  exact h1
theorem closure_ev (a b : ByteArray) (c d : Int) (l4 : List S97) {ds : List S29} (hb : Bd ds) {l : List Int} (hm : l.length ≤ 9223372036854775807) :
  Ev (fun k => depends_Closure.f k a b c d l4 ds l) (closV l4.length ds l) := by
 unfold closV
 cases hc : chk l4.length ds with
 | false =>
  simp only [Bool.false_eq_true, if_false]
  exact Ev.congr (fun k => by rw [depends_Closure.f, depends_Check.f, hc]; rfl) (Ev.now _)
 | true =>
  simp only [if_true]
  have hn := (chk_n hc).1
  have hl1 : ∀ m' : Nat, m' < 65536 → ∀ e i (acc : List Int), l4.length - i = e → i ≤ l4.length → acc.length ≤ i → Ev (fun k => depends_Closure.l1 k acc (m' : Int) (l4.length : Int) (i : Int)) (acc ++ flF (fun f => m'.testBit f.toNat) i (l4.length - i), 0) := by
   intro m' hm' e
   induction e with
   | zero =>
    intro i acc he hi ha
    rw [he, flF, List.range'_zero, List.map_nil, List.filter_nil, List.append_nil]
    exact Ev.step (fun k => by rw [depends_Closure.l1, if_neg (by omega)]) (Ev.now _)
   | succ e ih =>
    intro i acc he hi ha
    have hlt : i < l4.length := by omega
    have h16 : (i : Int) < 16 := by omega
    refine Ev.step (f := fun k => (depends_set_with.f k ((0 : Nat) : Int) [(i : Int)]).bind fun t124 => (depends_set_contains.f (m' : Int) t124).bind fun t125 => if t125 = true then (if acc.length < 17592186044416 then depends_Closure.l1 k (acc ++ [(i : Int)]) (m' : Int) (l4.length : Int) ((i + 1 : Nat) : Int) else none) else depends_Closure.l1 k acc (m' : Int) (l4.length : Int) ((i + 1 : Nat) : Int)) (fun k => by rw [depends_Closure.l1, if_pos (by omega), wrap_succ i (by omega)]; rfl) ?_
    refine Ev.bind (with_one (by omega) h16 (by decide)) ?_
    rw [contains_eq hm' (Nat.or_lt_two_pow (n := 16) (by decide) (pow_lt h16)), bit_one (by omega)]
    simp only [Option.bind_some]
    rw [show l4.length - i = (l4.length - (i + 1)) + 1 by omega, flF_succ]
    cases hb : m'.testBit ((i : Int)).toNat
    ·simp only [Bool.false_eq_true, if_false, List.nil_append]
     exact ih (i + 1) acc (by omega) (by omega) (by omega)
    ·simp only [if_true]
     rw [← List.append_assoc]
     refine Ev.congr (fun k => by rw [if_pos (by omega)]) (ih (i + 1) (acc ++ [(i : Int)]) (by omega) (by omega) (by simp; omega))
  have hl0 : ∀ e i (m : Nat), l.length - i = e → i ≤ l.length → m = wm 0 (l.take i) → (∀ f ∈ l.take i, 0 ≤ f ∧ f < l4.length) → Ev (fun k => depends_Closure.l0 k [] (m : Int) l (l.length : Int) (i : Int) a b c d l4 ds) (if inR l4.length l = true then (closL l4.length ds l, 0) else ([], 130)) := by
   intro e
   induction e with
   | zero =>
    intro i m he hi hme hall
    rw [List.take_of_length_le (by omega)] at hme hall
    subst hme
    rw [if_pos (inR_iff.2 hall)]
    obtain ⟨m', h1, h2, h3⟩ := closed_of a b c d l4 hc hb hall
    refine Ev.step (f := fun k => (depends_closed.f k a b c d l4 ds ((wm 0 l : Nat) : Int)).bind fun t120 => depends_Closure.l1 k [] t120 (l4.length : Int) 0) (fun k => by rw [depends_Closure.l0, if_neg (by omega)]) ?_
    refine Ev.bind h2 ?_
    have := hl1 m' h1 _ 0 [] rfl (by omega) (by simp)
    rw [List.nil_append, Nat.sub_zero, ← fl_eq] at this
    have e2 : fl (fun f => m'.testBit f.toNat) l4.length = closL l4.length ds l := by
     unfold closL
     refine fl_congr fun f h0 _ => ?_
     rw [Bool.eq_iff_iff, h3 f h0]
     simp
    rwa [e2] at this
   | succ e ih =>
    intro i m he hi hme hall
    have hlt : i < l.length := by omega
    by_cases q : rd l i < 0
    ·rw [if_neg (by
      intro h
      have := (inR_iff.1 h (rd l i) (by rw [rd_at3 l i hlt]; exact List.getElem_mem _)).1
      omega)]
     exact Ev.step (fun k => by rw [depends_Closure.l0, if_pos (by omega), if_pos (by omega), if_pos (by omega), if_pos q]) (Ev.now _)
    ·by_cases q2 : rd l i ≥ (l4.length : Int)
     ·rw [if_neg (by
       intro h
       have := (inR_iff.1 h (rd l i) (by rw [rd_at3 l i hlt]; exact List.getElem_mem _)).2
       omega)]
      exact Ev.step (fun k => by rw [depends_Closure.l0, if_pos (by omega), if_pos (by omega), if_pos (by omega), if_neg q, if_pos q2]) (Ev.now _)
     ·have hm16 : m < 65536 := by
       rw [hme]
       exact wm_lt (by decide) fun f hf => ⟨(hall f hf).1, by have := (hall f hf).2; omega⟩
      refine Ev.step (f := fun k => (depends_set_with.f k (m : Int) [rd l i]).bind fun t119 => depends_Closure.l0 k [] t119 l (l.length : Int) ((i + 1 : Nat) : Int) a b c d l4 ds) (fun k => by rw [depends_Closure.l0, if_pos (by omega), if_pos (by omega), if_pos (by omega), if_neg q, if_neg q2, wrap_succ i (by omega)]) ?_
      refine Ev.bind (with_one (by omega) (by omega) hm16) ?_
      refine ih (i + 1) _ (by omega) (by omega) ?_ ?_
      ·rw [List.take_succ_eq_append_getElem hlt, wm, List.foldl_append, ← rd_at3 l i hlt, hme]
       rfl
      ·intro f hf
       rw [List.take_succ_eq_append_getElem hlt, List.mem_append] at hf
       rcases hf with hf | hf
       ·exact hall f hf
       ·rw [← rd_at3 l i hlt] at hf
        obtain rfl : f = rd l i := by simpa using hf
        omega
  refine Ev.congr (f := fun k => depends_Closure.l0 k [] ((0 : Nat) : Int) l (l.length : Int) ((0 : Nat) : Int) a b c d l4 ds) (fun k => by rw [depends_Closure.f, depends_Check.f, hc]; rfl) ?_
  exact hl0 _ 0 0 rfl (by omega) rfl (by simp)
theorem implied_ev (a b : ByteArray) (c d : Int) (l4 : List S97) {ds : List S29} (hb : Bd ds) (l0 : List ByteArray) (a1 : ByteArray) {l : List Int} (hm : l.length ≤ 9223372036854775807) (tx : Int) :
  Ev (fun k => depends_Implied.f k a b c d l4 ds l0 a1 l tx) (implV l4.length ds l tx) := by
 unfold implV
 cases hc : chk l4.length ds with
 | false =>
  simp only [Bool.false_eq_true, if_false]
  exact Ev.congr (fun k => by rw [depends_Implied.f, depends_Check.f, hc]; rfl) (Ev.now _)
 | true =>
  simp only [if_true]
  cases hv : vld l4.length l tx with
  | false =>
   simp only [Bool.false_eq_true, if_false]
   exact Ev.congr (fun k => by rw [depends_Implied.f, depends_Check.f, hc, depends_valid.f, hv]; rfl) (Ev.now _)
  | true =>
   simp only [if_true]
   have hn := (chk_n hc).1
   have hf := vld_from hv
   have ht := vld_to hv
   obtain ⟨m', h1, h2, h3⟩ := closed_of a b c d l4 hc hb hf
   refine Ev.congr (f := fun k => (depends_set_with.f k ((0 : Nat) : Int) l).bind fun t166 => (depends_closed.f k a b c d l4 ds t166).bind fun t167 => (depends_set_with.f k ((0 : Nat) : Int) [tx]).bind fun t171 => (depends_set_contains.f t167 t171).bind fun t172 => some (t172, 0)) (fun k => by rw [depends_Implied.f, depends_Check.f, hc, depends_valid.f, hv]; rfl) ?_
   refine Ev.bind (with_ev (fun f hf' => ⟨(hf f hf').1, by have := (hf f hf').2; omega⟩) hm (by decide)) ?_
   refine Ev.bind h2 ?_
   refine Ev.bind (with_one ht.1 (by omega) (by decide)) ?_
   rw [contains_eq h1 (Nat.or_lt_two_pow (n := 16) (by decide) (pow_lt (by omega))), bit_one ht.1]
   have e : m'.testBit tx.toNat = @decide (Cl ds (· ∈ l) tx) (Classical.propDecidable _) := by
    rw [Bool.eq_iff_iff, h3 tx ht.1]
    simp
   rw [e]
   exact Ev.now _
end Go.Proofs.Ytfbcjeknibfjcaa.P
