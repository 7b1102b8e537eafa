/- Plain laws of chapter 13: the reference's Closure and Implied: so many passes as there are fields are enough. -/
import Derived.Test.YtfbcjeknibfjcaaP12
import Derived.Test.YtfbcjeknibfjcaaM4
import Derived.Test.YtfbcjeknibfjcaaM7
namespace Go.Proofs.Ytfbcjeknibfjcaa.P
open Go.RowKit Go.Proofs.YtfbcjeknibfjcaaW.PrintWords Go.Proofs.YtfbcjeknibfjcaaW.PrintLast Go.Proofs.YtfbcjeknibfjcaaW.PrintMore
set_option linter.unusedVariables false

/-! ### Lists of Bools as sets -/
def LeB (a b : List Bool) : Prop := a.length = b.length ∧ ∀ i, a.getD i false = true → b.getD i false = true
theorem LeB.refl (a : List Bool) : LeB a a := ⟨rfl, fun _ h => h⟩
theorem LeB.trans {a b c : List Bool} (h : LeB a b) (k : LeB b c) : LeB a c := ⟨h.1.trans k.1, fun i hi => k.2 i (h.2 i hi)⟩
theorem LeB.count : ∀ {a b : List Bool}, LeB a b → a.count true ≤ b.count true ∧ (a.count true = b.count true → a = b)
 | [], [], _ => ⟨Nat.le_refl _, fun _ => rfl⟩
 | [], _ :: _, h => by have := h.1; simp at this
 | _ :: _, [], h => by have := h.1; simp at this
 | x :: a, y :: b, h => by
  have ih := LeB.count (a := a) (b := b) ⟨by have := h.1; simpa using this, fun i hi => by have := h.2 (i + 1); simp at this; simpa using this (by simpa using hi)⟩
  have h0 := h.2 0
  cases x <;> cases y <;> simp at h0 ⊢
  ·exact ih
  ·exact ⟨by omega, fun e => by omega⟩
  ·exact ih
theorem setL_get {a : List Bool} {j i : Nat} (hj : j < a.length) : (a.set j true).getD i false = (decide (j = i) || a.getD i false) := by
 by_cases h : j = i
 ·subst h
  simp [List.getD_eq_getElem?_getD, hj]
 ·simp [List.getD_eq_getElem?_getD, h]
def rp (ds : List S29) (a : List Bool) : List Bool := ds.foldl (fun a d => if (d.f2.all fun f => rdOf false a f) = true then a.set d.f3.toNat true else a) a
theorem rp_cons (d : S29) (ds : List S29) (a : List Bool) : rp (d :: ds) a = rp ds (if (d.f2.all fun f => rdOf false a f) = true then a.set d.f3.toNat true else a) := rfl
theorem rp_len (ds : List S29) : ∀ a, (rp ds a).length = a.length := by
 induction ds with
 | nil => exact fun _ => rfl
 | cons d ds ih =>
  intro a
  rw [rp_cons, ih]
  split <;> simp
theorem set_le {a : List Bool} {j : Nat} (hj : j < a.length) : LeB a (a.set j true) := ⟨by simp, fun i h => by rw [setL_get hj, h]; simp⟩
def InL (n : Nat) (ds : List S29) : Prop := ∀ d ∈ ds, (∀ f ∈ d.f2, 0 ≤ f ∧ f < n) ∧ 0 ≤ d.f3 ∧ d.f3 < n
theorem rp_le {n : Nat} {ds : List S29} (h : InL n ds) : ∀ {a : List Bool}, a.length = n → LeB a (rp ds a) := by
 induction ds with
 | nil => exact fun _ => LeB.refl _
 | cons d ds ih =>
  intro a ha
  rw [rp_cons]
  have hd := (h d (by simp)).2
  refine LeB.trans ?_ (ih (fun e he => h e (by simp [he])) ?_)
  ·split
   ·exact set_le (by omega)
   ·exact LeB.refl _
  ·split <;> simp [ha]
theorem rp_fix {n : Nat} : ∀ {ds : List S29}, InL n ds → ∀ {a : List Bool}, a.length = n → rp ds a = a → ∀ d ∈ ds, (d.f2.all fun f => rdOf false a f) = true → a.getD d.f3.toNat false = true := by
 intro ds
 induction ds with
 | nil => intro _ a _ _ d hd; cases hd
 | cons e ds ih =>
  intro h a ha hf d hd hs
  rw [rp_cons] at hf
  have he := (h e (by simp)).2
  have hlen : (if (e.f2.all fun f => rdOf false a f) = true then a.set e.f3.toNat true else a).length = n := by
   split
   ·rw [List.length_set, ha]
   ·exact ha
  have hay : LeB a (if (e.f2.all fun f => rdOf false a f) = true then a.set e.f3.toNat true else a) := by
   split
   ·exact set_le (by omega)
   ·exact LeB.refl _
  have hya := rp_le (ds := ds) (fun e' he' => h e' (List.mem_cons_of_mem _ he')) hlen
  rw [hf] at hya
  have c1 := hay.count
  have c2 := hya.count
  have hy : a = (if (e.f2.all fun f => rdOf false a f) = true then a.set e.f3.toNat true else a) := c1.2 (Nat.le_antisymm c1.1 c2.1)
  rcases List.mem_cons.1 hd with rfl | hd
  ·rw [if_pos hs] at hy
   rw [hy, setL_get (by omega)]
   rw [decide_eq_true rfl, Bool.true_or]
  ·rw [← hy] at hf
   exact ih (fun e he => h e (by simp [he])) ha hf d hd hs
def InS (a : List Bool) (f : Int) : Prop := 0 ≤ f ∧ a.getD f.toNat false = true
theorem rp_sound {n : Nat} {es : List S29} (h : InL n es) {S : Int → Prop} : ∀ {ds : List S29}, (∀ d ∈ ds, d ∈ es) → ∀ {a : List Bool}, a.length = n → (∀ f, InS a f → Cl es S f) → ∀ f, InS (rp ds a) f → Cl es S f := by
 intro ds
 induction ds with
 | nil => exact fun _ _ _ h => h
 | cons d ds ih =>
  intro hd a ha hy
  rw [rp_cons]
  refine ih (fun e he => hd e (by simp [he])) (by split <;> simp [ha]) ?_
  have hde := hd d (by simp)
  have hh := h d hde
  split
  ·rename_i hs
   rintro f ⟨h0, hb⟩
   rw [setL_get (by omega), Bool.or_eq_true] at hb
   rcases hb with hb | hb
   ·have e : f = d.f3 := by
     simp at hb
     omega
    rw [e]
    refine .step hde fun g hg => hy g ⟨(hh.1 g hg).1, ?_⟩
    exact List.all_eq_true.1 hs g hg
   ·exact hy f ⟨h0, hb⟩
  ·exact hy
def rpN (ds : List S29) : Nat → List Bool → List Bool
 | 0, a => a
 | j + 1, a => rpN ds j (rp ds a)
theorem rpN_len (ds : List S29) : ∀ j a, (rpN ds j a).length = a.length
 | 0, _ => rfl
 | j + 1, a => by rw [rpN, rpN_len ds j, rp_len]
theorem rpN_fixed (ds : List S29) {a : List Bool} (h : rp ds a = a) : ∀ j, rpN ds j a = a
 | 0 => rfl
 | j + 1 => by rw [rpN, h, rpN_fixed ds h j]
theorem rpN_fix {n : Nat} {ds : List S29} (h : InL n ds) : ∀ j {a : List Bool}, a.length = n → n ≤ j + a.count true → rp ds (rpN ds j a) = rpN ds j a
 | 0, a, ha, hc => by
  have hle := rp_le h ha
  have hl := List.count_le_length (a := true) (l := rp ds a)
  rw [rp_len] at hl
  have := hle.count
  exact (this.2 (by omega)).symm
 | j + 1, a, ha, hc => by
  have hle := (rp_le h ha).count
  by_cases q : a.count true = (rp ds a).count true
  ·have e := hle.2 q
   rw [rpN, ← e, rpN_fixed ds e.symm j, ← e]
  ·rw [rpN]
   exact rpN_fix h j (by rw [rp_len, ha]) (by omega)
theorem rpN_le {n : Nat} {ds : List S29} (h : InL n ds) : ∀ j {a : List Bool}, a.length = n → LeB a (rpN ds j a)
 | 0, _, _ => LeB.refl _
 | j + 1, a, ha => (rp_le h ha).trans (rpN_le h j (by rw [rp_len, ha]))
theorem rpN_sound {n : Nat} {ds : List S29} (h : InL n ds) {S : Int → Prop} : ∀ j {a : List Bool}, a.length = n → (∀ f, InS a f → Cl ds S f) → ∀ f, InS (rpN ds j a) f → Cl ds S f
 | 0, _, _, hy => hy
 | j + 1, a, ha, hy => rpN_sound h j (by rw [rp_len, ha]) (rp_sound h (fun _ h => h) ha hy)
def setL (l : List Int) (a : List Bool) : List Bool := l.foldl (fun a f => a.set f.toNat true) a
theorem setL_len (l : List Int) : ∀ a, (setL l a).length = a.length := by
 induction l with
 | nil => exact fun _ => rfl
 | cons f l ih => intro a; rw [setL, List.foldl_cons]; exact (ih _).trans (by simp)
theorem setL_in {n : Nat} : ∀ {l : List Int}, (∀ f ∈ l, 0 ≤ f ∧ f < n) → ∀ {a : List Bool}, a.length = n → ∀ f : Int, 0 ≤ f → ((setL l a).getD f.toNat false = true ↔ f ∈ l ∨ a.getD f.toNat false = true) := by
 intro l
 induction l with
 | nil => intro _ a _ f _; simp [setL]
 | cons g l ih =>
  intro hl a ha f hf
  have hg := hl g (by simp)
  rw [setL, List.foldl_cons]
  have := ih (fun f hf => hl f (by simp [hf])) (a := a.set g.toNat true) (by simp [ha]) f hf
  rw [setL] at this
  rw [this, setL_get (by omega), Bool.or_eq_true, List.mem_cons, decide_eq_true_eq]
  constructor
  ·rintro (h | h | h)
   ·exact .inl (.inr h)
   ·exact .inl (.inl (by omega))
   ·exact .inr h
  ·rintro ((h | h) | h)
   ·exact .inr (.inl (by omega))
   ·exact .inl h
   ·exact .inr (.inr h)

/-! ### The reference's loops -/
theorem all_ev {a : List Bool} {l : List Int} (hl : ∀ f ∈ l, 0 ≤ f ∧ f < a.length) (hm : l.length ≤ 9223372036854775807) : Ev (fun k => testamurref13_all.f k a l) (l.all fun f => rdOf false a f) := by
 have : ∀ m i, l.length - i = m → i ≤ l.length → Ev (fun k => testamurref13_all.l0 k a l (i : Int)) ((l.drop i).all fun f => rdOf false a f) := by
  intro m
  induction m with
  | zero =>
   intro i h hi
   rw [List.drop_of_length_le (by omega), List.all_nil]
   exact Ev.step (fun k => by rw [testamurref13_all.l0, if_neg (by omega)]) (Ev.now _)
  | succ m ih =>
   intro i h hi
   have hlt : i < l.length := by omega
   have hf := hl (rd l i) (by rw [rd_at3 l i hlt]; exact List.getElem_mem _)
   rw [List.drop_eq_getElem_cons hlt, List.all_cons, ← rd_at3 l i hlt]
   cases hq : rdOf false a (rd l i)
   ·rw [Bool.false_and]
    exact Ev.step (fun k => by rw [testamurref13_all.l0, if_pos (by omega), if_pos (by omega), if_pos hf.1, if_pos hf.2, if_neg (by rw [hq]; simp)]) (Ev.now _)
   ·rw [Bool.true_and]
    exact Ev.step (fun k => by rw [testamurref13_all.l0, if_pos (by omega), if_pos (by omega), if_pos hf.1, if_pos hf.2, if_pos hq, wrap_succ i (by omega)]) (ih (i + 1) (by omega) (by omega))
 have h := this _ 0 rfl (by omega)
 rwa [List.drop_zero] at h
theorem rl3_ev {a : List Bool} (hn : a.length ≤ 12) : ∀ e i (acc : List Int), a.length - i = e → i ≤ a.length → acc.length ≤ i → Ev (fun k => testamurref13_Closure.l3 k a acc (i : Int)) (acc ++ flF (fun f => rdOf false a f) i (a.length - i), 0) := by
 intro e
 induction e with
 | zero =>
  intro i acc he hi ha
  rw [he, flF, List.range'_zero, List.map_nil, List.filter_nil, List.append_nil]
  exact Ev.step (fun k => by rw [testamurref13_Closure.l3, if_neg (by omega)]) (Ev.now _)
 | succ e ih =>
  intro i acc he hi ha
  have hlt : i < a.length := by omega
  rw [show a.length - i = (a.length - (i + 1)) + 1 by omega, flF_succ]
  cases hb : rdOf false a (i : Int)
  ·simp only [Bool.false_eq_true, if_false, List.nil_append]
   exact Ev.step (fun k => by rw [testamurref13_Closure.l3, if_pos (by omega), if_pos (by omega), if_neg (by rw [hb]; simp), wrap_succ i (by omega)]) (ih (i + 1) acc (by omega) (by omega) (by omega))
  ·simp only [if_true]
   rw [← List.append_assoc]
   exact Ev.step (fun k => by rw [testamurref13_Closure.l3, if_pos (by omega), if_pos (by omega), if_pos hb, if_pos (by omega), wrap_succ i (by omega)]) (ih (i + 1) (acc ++ [(i : Int)]) (by omega) (by omega) (by simp; omega))
theorem chk_inL {n : Nat} {ds : List S29} (h : chk n ds = true) : InL n ds := fun d hd => ⟨vld_from (chk_all h d hd), vld_to (chk_all h d hd)⟩
theorem rclosure_ev (a b : ByteArray) (c d : Int) (l4 : List S97) {ds : List S29} (hb : Bd ds) {l : List Int} (hm : l.length ≤ 9223372036854775807) :
  Ev (fun k => testamurref13_Closure.f k a b c d l4 ds l) (closV l4.length ds l) := by
 refine Ev.bind (f := fun k t143 => if t143 = 0 then (if 0 ≤ (l4.length : Int) then (if ((l4.length : Int) : Int).toNat ≤ 281474976710656 then testamurref13_Closure.l0 k l (List.replicate ((l4.length : Int) : Int).toNat false) 0 a b c d l4 ds else none) else none) else some ([], t143)) (rcheck_ev a b c d l4 ds hb) ?_
 unfold closV
 cases hc : chk l4.length ds with
 | false =>
  simp only [Bool.false_eq_true, if_false]
  exact Ev.now _
 | true =>
  simp only [if_true]
  have hn := (chk_n hc).1
  have hin := chk_inL hc
  have hl2 : ∀ j : Nat, j < l4.length → ∀ e i (x : List Bool), ds.length - i = e → i ≤ ds.length → x.length = l4.length → ∀ r, Ev (fun k => testamurref13_Closure.l1 k (rp (ds.drop i) x) ((j + 1 : Nat) : Int) a b c d l4 ds) r →
    Ev (fun k => testamurref13_Closure.l2 k x (j : Int) (i : Int) a b c d l4 ds) r := by
   intro j hj e
   induction e with
   | zero =>
    intro i x he hi hx r hr
    rw [List.drop_of_length_le (by omega)] at hr
    exact Ev.step (fun k => by rw [testamurref13_Closure.l2, if_neg (by omega), wrap_succ j (by omega)]; rfl) hr
   | succ e ih =>
    intro i x he hi hx r hr
    have hlt : i < ds.length := by omega
    have hd := hin (rd_T29 ds i) (by rw [rd_at29 ds i hlt]; exact List.getElem_mem _)
    rw [List.drop_eq_getElem_cons hlt, rp_cons, ← rd_at29 ds i hlt] at hr
    refine Ev.step (f := fun k => (testamurref13_all.f k x (rd_T29 ds i).f2).bind fun t152 => if t152 = true then (if 0 ≤ (rd_T29 ds i).f3 then (if (rd_T29 ds i).f3 < (x.length : Int) then testamurref13_Closure.l2 k (x.set ((rd_T29 ds i).f3 : Int).toNat true) (j : Int) ((i + 1 : Nat) : Int) a b c d l4 ds else none) else none) else testamurref13_Closure.l2 k x (j : Int) ((i + 1 : Nat) : Int) a b c d l4 ds) (fun k => by rw [testamurref13_Closure.l2, if_pos (by omega), if_pos (by omega), wrap_succ i (by have := hb.1; omega)]) ?_
    refine Ev.bind (all_ev (fun f hf => by rw [hx]; exact hd.1 f hf) (hb.at i hlt)) ?_
    cases hq : ((rd_T29 ds i).f2.all fun f => rdOf false x f)
    ·rw [hq] at hr
     simp only [Bool.false_eq_true, if_false] at hr ⊢
     exact ih (i + 1) x (by omega) (by omega) hx r hr
    ·rw [hq] at hr
     simp only [if_true] at hr ⊢
     exact Ev.congr (fun k => by rw [if_pos hd.2.1, if_pos (by rw [hx]; exact hd.2.2)]) (ih (i + 1) _ (by omega) (by omega) (by simp [hx]) r hr)
  have hl1 : ∀ e j (x : List Bool), l4.length - j = e → j ≤ l4.length → x.length = l4.length → Ev (fun k => testamurref13_Closure.l1 k x (j : Int) a b c d l4 ds) (fl (fun f => rdOf false (rpN ds e x) f) l4.length, 0) := by
   intro e
   induction e with
   | zero =>
    intro j x he hj hx
    have := rl3_ev (a := x) (by omega) _ 0 [] rfl (by omega) (by simp)
    rw [List.nil_append, Nat.sub_zero, ← fl_eq, hx] at this
    exact Ev.step (fun k => by rw [testamurref13_Closure.l1, if_neg (by omega)]; rfl) this
   | succ e ih =>
    intro j x he hj hx
    refine Ev.step (f := fun k => testamurref13_Closure.l2 k x (j : Int) ((0 : Nat) : Int) a b c d l4 ds) (fun k => by rw [testamurref13_Closure.l1, if_pos (by omega)]; rfl) ?_
    refine hl2 j (by omega) _ 0 x rfl (by omega) hx _ ?_
    rw [List.drop_zero]
    exact ih (j + 1) (rp ds x) (by omega) (by omega) (by rw [rp_len, hx])
  have hl0 : ∀ e i (x : List Bool), l.length - i = e → i ≤ l.length → x = setL (l.take i) (List.replicate l4.length false) → (∀ f ∈ l.take i, 0 ≤ f ∧ f < l4.length) → Ev (fun k => testamurref13_Closure.l0 k l x (i : Int) a b c d l4 ds) (if inR l4.length l = true then (closL l4.length ds l, 0) else ([], 130)) := by
   intro e
   induction e with
   | zero =>
    intro i x he hi hxe hall
    rw [List.take_of_length_le (by omega)] at hxe hall
    have hxl : x.length = l4.length := by rw [hxe, setL_len]; simp
    rw [if_pos (inR_iff.2 hall)]
    refine Ev.step (f := fun k => testamurref13_Closure.l1 k x ((0 : Nat) : Int) a b c d l4 ds) (fun k => by rw [testamurref13_Closure.l0, if_neg (by omega)]; rfl) ?_
    have h1 := hl1 _ 0 x rfl (by omega) hxl
    rw [Nat.sub_zero] at h1
    have e2 : fl (fun f => rdOf false (rpN ds l4.length x) f) l4.length = closL l4.length ds l := by
     unfold closL
     refine fl_congr fun f h0 _ => ?_
     rw [Bool.eq_iff_iff]
     simp only [decide_eq_true_eq]
     have hx0 : ∀ g : Int, 0 ≤ g → (x.getD g.toNat false = true ↔ g ∈ l) := by
      intro g hg
      rw [hxe, setL_in hall (by simp) g hg]
      constructor
      ·rintro (h | h)
       ·exact h
       ·have : (List.replicate l4.length false).getD g.toNat false = false := by
         rw [List.getD_eq_getElem?_getD, List.getElem?_replicate]
         split <;> rfl
        rw [this] at h
        cases h
      ·exact .inl
     constructor
     ·intro h
      exact rpN_sound hin l4.length hxl (fun g hg => .base ((hx0 g hg.1).1 hg.2)) f ⟨h0, h⟩
     ·intro h
      have hfix := rpN_fix hin l4.length hxl (by omega)
      have hle := rpN_le hin l4.length hxl
      refine (h.least (T := fun g => InS (rpN ds l4.length x) g) (fun g hg => ⟨(hall g hg).1, hle.2 _ ((hx0 g (hall g hg).1).2 hg)⟩) (fun e he hg => ⟨(hin e he).2.1, ?_⟩)).2
      refine rp_fix hin (by rw [rpN_len, hxl]) hfix e he ?_
      rw [List.all_eq_true]
      exact fun g hg' => (hg g hg').2
    rwa [e2] at h1
   | succ e ih =>
    intro i x he hi hxe hall
    have hlt : i < l.length := by omega
    have hxl : x.length = l4.length := by rw [hxe, setL_len]; simp
    by_cases q : rd l i < 0
    ·rw [if_neg (by
      intro h
      have := (inR_iff.1 h (rd l i) (by rw [rd_at3 l i hlt]; exact List.getElem_mem _)).1
      omega)]
     exact Ev.step (fun k => by rw [testamurref13_Closure.l0, if_pos (by omega), if_pos (by omega), if_pos q]) (Ev.now _)
    ·by_cases q2 : rd l i ≥ (l4.length : Int)
     ·rw [if_neg (by
       intro h
       have := (inR_iff.1 h (rd l i) (by rw [rd_at3 l i hlt]; exact List.getElem_mem _)).2
       omega)]
      exact Ev.step (fun k => by rw [testamurref13_Closure.l0, if_pos (by omega), if_pos (by omega), if_neg q, if_pos (by omega)]) (Ev.now _)
     ·refine Ev.step (fun k => by rw [testamurref13_Closure.l0, if_pos (by omega), if_pos (by omega), if_neg q, if_neg (by omega), if_pos (by omega), if_pos (by omega), wrap_succ i (by omega)]) (ih (i + 1) _ (by omega) (by omega) ?_ ?_)
      ·rw [List.take_succ_eq_append_getElem hlt, setL, List.foldl_append, ← rd_at3 l i hlt, hxe]
       rfl
      ·intro f hf
       rw [List.take_succ_eq_append_getElem hlt, List.mem_append] at hf
       rcases hf with hf | hf
       ·exact hall f hf
       ·rw [← rd_at3 l i hlt] at hf
        obtain rfl : f = rd l i := by simpa using hf
        omega
  refine Ev.congr (f := fun k => testamurref13_Closure.l0 k l (List.replicate l4.length false) ((0 : Nat) : Int) a b c d l4 ds) (fun k => by rw [if_pos (by omega), if_pos (by omega)]; rfl) ?_
  exact hl0 _ 0 _ rfl (by omega) rfl (by simp)
theorem rimplied_ev (a b : ByteArray) (c d : Int) (l4 : List S97) {ds : List S29} (hb : Bd ds) (l0 : List ByteArray) (a1 : ByteArray) {l : List Int} (hm : l.length ≤ 9223372036854775807) (tx : Int) :
  Ev (fun k => testamurref13_Implied.f k a b c d l4 ds l0 a1 l tx) (implV l4.length ds l tx) := by
 refine Ev.bind (f := fun k t175 => if t175 = 0 then ((testamurref13_Valid.f k (l4.length : Int) l0 a1 l tx).bind fun t176 => if t176 = true then ((testamurref13_Closure.f k a b c d l4 ds l).bind fun bt177 => (testamurref13_Has.f k bt177.1 tx).bind fun t181 => some (t181, (0 : Int))) else some (false, 130)) else some (false, t175)) (rcheck_ev a b c d l4 ds hb) ?_
 unfold implV
 cases hc : chk l4.length ds with
 | false =>
  simp only [Bool.false_eq_true, if_false]
  exact Ev.now _
 | true =>
  simp only [if_true]
  refine Ev.bind (f := fun k t176 => if t176 = true then ((testamurref13_Closure.f k a b c d l4 ds l).bind fun bt177 => (testamurref13_Has.f k bt177.1 tx).bind fun t181 => some (t181, (0 : Int))) else some (false, 130)) (valid_ev l4.length l0 a1 l tx hm) ?_
  cases hv : vld l4.length l tx with
  | false =>
   simp only [Bool.false_eq_true, if_false]
   exact Ev.now _
  | true =>
   simp only [if_true]
   have hn := (chk_n hc).1
   have hf := vld_from hv
   have ht := vld_to hv
   refine Ev.bind (f := fun k bt177 => (testamurref13_Has.f k bt177.1 tx).bind fun t181 => some (t181, (0 : Int))) (rclosure_ev a b c d l4 hb hm) ?_
   have e : closV l4.length ds l = (closL l4.length ds l, 0) := by rw [closV, hc, inR_iff.2 hf]; simp
   rw [e]
   have hlen : (closL l4.length ds l).length ≤ 9223372036854775807 := by
    have : (closL l4.length ds l).length ≤ l4.length := by
     unfold closL
     rw [fl_eq]
     exact flF_len _ _ _
    omega
   refine Ev.bind (has_ev (closL l4.length ds l) tx hlen) ?_
   have e2 : ((closL l4.length ds l).any fun x => x == tx) = @decide (Cl ds (· ∈ l) tx) (Classical.propDecidable _) := by
    rw [Bool.eq_iff_iff, List.any_eq_true]
    simp only [decide_eq_true_eq]
    unfold closL
    constructor
    ·rintro ⟨x, hx, hxt⟩
     obtain rfl : x = tx := by simpa using hxt
     simpa using (mem_fl.1 hx).2.2
    ·intro h
     exact ⟨tx, mem_fl.2 ⟨ht.1, ht.2, by simpa using h⟩, by simp⟩
   rw [e2]
   exact Ev.now _
end Go.Proofs.Ytfbcjeknibfjcaa.P
