/- Plain laws of chapter 13: closures; what the program's sets of fields come to. -/
import Derived.Test.YtfbcjeknibfjcaaPA
import Derived.Test.YtfbcjeknibfjcaaM1
namespace Go.Proofs.Ytfbcjeknibfjcaa.P
open Go.RowKit Go.Proofs.YtfbcjeknibfjcaaW.PrintWords Go.Proofs.YtfbcjeknibfjcaaW.PrintLast Go.Proofs.YtfbcjeknibfjcaaW.PrintMore
set_option linter.unusedVariables false

/-- What follows from some fields. -/
inductive Cl (ds : List S29) (S : Int → Prop) : Int → Prop
 | base {f : Int} : S f → Cl ds S f
 | step {d : S29} : d ∈ ds → (∀ f ∈ d.f2, Cl ds S f) → Cl ds S d.f3
theorem Cl.least {ds : List S29} {S T : Int → Prop} (hS : ∀ f, S f → T f) (hT : ∀ d ∈ ds, (∀ f ∈ d.f2, T f) → T d.f3) {f : Int} (h : Cl ds S f) : T f := by
 induction h with
 | base h => exact hS _ h
 | step hd _ ih => exact hT _ hd ih
theorem Cl.mono {ds : List S29} {S T : Int → Prop} (hS : ∀ f, S f → T f) {f : Int} (h : Cl ds S f) : Cl ds T f :=
 h.least (fun f h => .base (hS f h)) (fun d hd h => .step hd h)
theorem Cl.idem {ds : List S29} {S : Int → Prop} {f : Int} (h : Cl ds (Cl ds S) f) : Cl ds S f := h.least (fun _ h => h) (fun d hd h => .step hd h)
theorem Cl.more {ds es : List S29} (hd : ∀ d ∈ ds, d ∈ es) {S : Int → Prop} {f : Int} (h : Cl ds S f) : Cl es S f := h.least (fun _ h => .base h) (fun d h1 h => .step (hd d h1) h)

/-! ### Masks -/
theorem or_eq {a b : Nat} (ha : a < 65536) (hb : b < 65536) : Go.bits .or .u16 (a : Int) (b : Int) = ((a ||| b : Nat) : Int) := by
 have hor : a ||| b < 65536 := Nat.or_lt_two_pow (n := 16) ha hb
 have e1 : (BitVec.ofInt 16 (a : Int)) = BitVec.ofNat 16 a := by simp
 have e2 : (BitVec.ofInt 16 (b : Int)) = BitVec.ofNat 16 b := by simp
 show IntKind.wrap .u16 (((BitVec.ofInt 16 (a : Int) ||| BitVec.ofInt 16 (b : Int)).toNat : Nat) : Int) = _
 rw [e1, e2, BitVec.toNat_or, BitVec.toNat_ofNat, BitVec.toNat_ofNat, Nat.mod_eq_of_lt ha, Nat.mod_eq_of_lt hb]
 show (((a ||| b : Nat) : Int)) % 65536 = _
 omega
theorem and_eq {a b : Nat} (ha : a < 65536) (hb : b < 65536) : Go.bits .and .u16 (a : Int) (b : Int) = ((a &&& b : Nat) : Int) := by
 have hor : a &&& b < 65536 := Nat.lt_of_le_of_lt Nat.and_le_left ha
 have e1 : (BitVec.ofInt 16 (a : Int)) = BitVec.ofNat 16 a := by simp
 have e2 : (BitVec.ofInt 16 (b : Int)) = BitVec.ofNat 16 b := by simp
 show IntKind.wrap .u16 (((BitVec.ofInt 16 (a : Int) &&& BitVec.ofInt 16 (b : Int)).toNat : Nat) : Int) = _
 rw [e1, e2, BitVec.toNat_and, BitVec.toNat_ofNat, BitVec.toNat_ofNat, Nat.mod_eq_of_lt ha, Nat.mod_eq_of_lt hb]
 show (((a &&& b : Nat) : Int)) % 65536 = _
 omega
theorem shl_eq {f : Int} (h0 : 0 ≤ f) (h1 : f < 16) : shl .u16 1 f = ((2 ^ f.toNat : Nat) : Int) := by
 have hm : min f.toNat 16 = f.toNat := by omega
 have hlt : 2 ^ f.toNat < 65536 := Nat.pow_lt_pow_right (a := 2) (n := 16) (by decide) (by omega)
 show IntKind.wrap .u16 (1 * 2 ^ min f.toNat 16) = _
 rw [hm]
 show (1 * (2 : Int) ^ f.toNat) % 65536 = _
 have : ((2 ^ f.toNat : Nat) : Int) = (2 : Int) ^ f.toNat := by simp
 rw [← this, Int.one_mul]
 generalize 2 ^ f.toNat = q at hlt ⊢
 omega
def wm (m : Nat) (l : List Int) : Nat := l.foldl (fun m f => m ||| 2 ^ f.toNat) m
theorem wm_cons (m : Nat) (f : Int) (l : List Int) : wm m (f :: l) = wm (m ||| 2 ^ f.toNat) l := rfl
theorem pow_lt {f : Int} (h1 : f < 16) : 2 ^ f.toNat < 65536 := Nat.pow_lt_pow_right (a := 2) (n := 16) (by decide) (by omega)
theorem wm_lt {l : List Int} : ∀ {m : Nat}, m < 65536 → (∀ f ∈ l, 0 ≤ f ∧ f < 16) → wm m l < 65536 := by
 induction l with
 | nil => exact fun h _ => h
 | cons f l ih =>
  intro m h hl
  exact ih (Nat.or_lt_two_pow (n := 16) h (pow_lt (hl f (by simp)).2)) (fun g hg => hl g (by simp [hg]))
theorem wm_bit (l : List Int) : ∀ (m i : Nat), (wm m l).testBit i = (m.testBit i || l.any fun f => f.toNat == i) := by
 induction l with
 | nil => intro m i; simp [wm]
 | cons f l ih =>
  intro m i
  rw [wm_cons, ih, Nat.testBit_or, Nat.testBit_two_pow, List.any_cons]
  by_cases h : f.toNat = i
  ·simp [h]
  ·have h' : (f.toNat == i) = false := by simp [h]
   simp [h, h']
theorem with_ev {l : List Int} (hl : ∀ f ∈ l, 0 ≤ f ∧ f < 16) (hm : l.length ≤ 9223372036854775807) {m : Nat} (h : m < 65536) : Ev (fun k => depends_set_with.f k (m : Int) l) ((wm m l : Nat) : Int) := by
 have : ∀ (d i m : Nat), l.length - i = d → i ≤ l.length → m < 65536 → Ev (fun k => depends_set_with.l0 k (m : Int) l (l.length : Int) (i : Int)) ((wm m (l.drop i) : Nat) : Int) := by
  intro d
  induction d with
  | zero =>
   intro i m h hi hm
   rw [List.drop_of_length_le (by omega)]
   exact Ev.step (fun k => by rw [depends_set_with.l0, if_neg (by omega)]; rfl) (Ev.now _)
  | succ d ih =>
   intro i m h hi hm2
   have hlt : i < l.length := by omega
   have hf := hl (rd l i) (by rw [rd_at3 l i hlt]; exact List.getElem_mem _)
   rw [List.drop_eq_getElem_cons hlt, wm_cons, ← rd_at3 l i hlt]
   exact Ev.step (fun k => by rw [depends_set_with.l0, if_pos (by omega), if_pos (by omega), if_pos (by omega), if_pos hf.1, shl_eq hf.1 hf.2, or_eq hm2 (pow_lt hf.2), wrap_succ i (by omega)]) (ih (i + 1) _ (by omega) (by omega) (Nat.or_lt_two_pow (n := 16) hm2 (pow_lt hf.2)))
 have h2 := this _ 0 m rfl (by omega) h
 rwa [List.drop_zero] at h2
theorem with_one {f : Int} (h0 : 0 ≤ f) (h1 : f < 16) {m : Nat} (h : m < 65536) : Ev (fun k => depends_set_with.f k (m : Int) [f]) ((m ||| 2 ^ f.toNat : Nat) : Int) :=
 with_ev (l := [f]) (by simpa using ⟨h0, h1⟩) (by simp) h
def sub (a b : Nat) : Bool := a &&& b == b
theorem sub_iff {a b : Nat} : sub a b = true ↔ ∀ i, b.testBit i = true → a.testBit i = true := by
 rw [sub, beq_iff_eq]
 constructor
 ·intro h i hb
  have := congrArg (·.testBit i) h
  simp only [Nat.testBit_and, hb, Bool.and_true] at this
  exact this
 ·intro h
  apply Nat.eq_of_testBit_eq
  intro i
  rw [Nat.testBit_and]
  cases hb : b.testBit i
  ·simp
  ·simp [h i hb]
theorem contains_eq {a b : Nat} (ha : a < 65536) (hb : b < 65536) : depends_set_contains.f (a : Int) (b : Int) = some (sub a b) := by
 rw [depends_set_contains.f, and_eq ha hb, sub]
 congr 1
 by_cases h : a &&& b = b
 ·simp [h]
 ·have h' : ¬ ((a &&& b : Nat) : Int) = (b : Int) := by omega
  rw [beq_eq_false_iff_ne.2 h, beq_eq_false_iff_ne.2 h']
theorem sub_wm {a : Nat} {l : List Int} (hl : ∀ f ∈ l, 0 ≤ f) : sub a (wm 0 l) = true ↔ ∀ f ∈ l, a.testBit f.toNat = true := by
 rw [sub_iff]
 constructor
 ·intro h f hf
  refine h f.toNat ?_
  rw [wm_bit]
  simp only [Nat.zero_testBit, Bool.false_or, List.any_eq_true]
  exact ⟨f, hf, by simp⟩
 ·intro h i hi
  rw [wm_bit] at hi
  simp only [Nat.zero_testBit, Bool.false_or, List.any_eq_true, beq_iff_eq] at hi
  obtain ⟨f, hf, rfl⟩ := hi
  exact h f hf

/-! ### The closure of a mask -/
/-- The dependencies' fields are within a mask's reach. -/
def In16 (ds : List S29) : Prop := ∀ d ∈ ds, (∀ f ∈ d.f2, 0 ≤ f ∧ f < 16) ∧ 0 ≤ d.f3 ∧ d.f3 < 16
def pass (ds : List S29) (y : Nat) : Nat := ds.foldl (fun y d => if sub y (wm 0 d.f2) = true then y ||| 2 ^ d.f3.toNat else y) y
theorem pass_cons (d : S29) (ds : List S29) (y : Nat) : pass (d :: ds) y = pass ds (if sub y (wm 0 d.f2) = true then y ||| 2 ^ d.f3.toNat else y) := rfl
theorem pass_lt {ds : List S29} (h : In16 ds) : ∀ {y : Nat}, y < 65536 → pass ds y < 65536 := by
 induction ds with
 | nil => exact fun h => h
 | cons d ds ih =>
  intro y hy
  rw [pass_cons]
  refine ih (fun e he => h e (by simp [he])) ?_
  split
  ·exact Nat.or_lt_two_pow (n := 16) hy (pow_lt (h d (by simp)).2.2)
  ·exact hy
theorem or_sub (a b : Nat) : sub (a ||| b) a = true := sub_iff.2 fun i h => by rw [Nat.testBit_or, h]; rfl
theorem sub_trans {a b c : Nat} (h : sub a b = true) (k : sub b c = true) : sub a c = true := sub_iff.2 fun i hi => sub_iff.1 h i (sub_iff.1 k i hi)
theorem sub_refl (a : Nat) : sub a a = true := sub_iff.2 fun _ h => h
theorem sub_antisymm {a b : Nat} (h : sub a b = true) (k : sub b a = true) : a = b := by
 apply Nat.eq_of_testBit_eq
 intro i
 have h1 := sub_iff.1 h i
 have h2 := sub_iff.1 k i
 cases ha : a.testBit i <;> cases hb : b.testBit i <;> simp_all
theorem sub_le {a b : Nat} (h : sub a b = true) : b ≤ a := by
 rw [sub, beq_iff_eq] at h
 rw [← h]
 exact Nat.and_le_left
theorem pass_sub (ds : List S29) : ∀ y, sub (pass ds y) y = true := by
 induction ds with
 | nil => exact sub_refl
 | cons d ds ih =>
  intro y
  rw [pass_cons]
  refine sub_trans (ih _) ?_
  split
  ·exact or_sub _ _
  ·exact sub_refl _
theorem pass_fix : ∀ {ds : List S29} {y : Nat}, pass ds y = y → ∀ d ∈ ds, sub y (wm 0 d.f2) = true → y.testBit d.f3.toNat = true := by
 intro ds
 induction ds with
 | nil => intro y _ d hd; cases hd
 | cons e ds ih =>
  intro y h d hd hs
  rw [pass_cons] at h
  have hy : (if sub y (wm 0 e.f2) = true then y ||| 2 ^ e.f3.toNat else y) = y := by
   have h1 := pass_sub ds (if sub y (wm 0 e.f2) = true then y ||| 2 ^ e.f3.toNat else y)
   rw [h] at h1
   refine sub_antisymm ?_ h1
   split
   ·exact or_sub _ _
   ·exact sub_refl _
  rcases List.mem_cons.1 hd with rfl | hd
  ·rw [if_pos hs] at hy
   rw [← hy, Nat.testBit_or, Nat.testBit_two_pow]
   simp
  ·rw [hy] at h
   exact ih h d hd hs
def BitS (m : Nat) (f : Int) : Prop := 0 ≤ f ∧ m.testBit f.toNat = true
theorem pass_sound {es : List S29} (h : In16 es) {S : Int → Prop} : ∀ {ds : List S29}, (∀ d ∈ ds, d ∈ es) → ∀ {y : Nat}, (∀ f, BitS y f → Cl es S f) → ∀ f, BitS (pass ds y) f → Cl es S f := by
 intro ds
 induction ds with
 | nil => exact fun _ _ h => h
 | cons d ds ih =>
  intro hd y hy
  rw [pass_cons]
  refine ih (fun e he => hd e (by simp [he])) ?_
  split
  ·rename_i hs
   intro f hf
   have hde := hd d (by simp)
   obtain ⟨h0, hb⟩ := hf
   rw [Nat.testBit_or, Nat.testBit_two_pow, Bool.or_eq_true] at hb
   rcases hb with hb | hb
   ·exact hy f ⟨h0, hb⟩
   ·have e : f = d.f3 := by
     have := (h d hde).2.1
     simp at hb
     omega
    rw [e]
    exact .step hde fun g hg => hy g ⟨((h d hde).1 g hg).1, (sub_wm fun f hf => ((h d hde).1 f hf).1).1 hs g hg⟩
  ·exact hy
theorem closed_ev (a b : ByteArray) (c d : Int) (l4 : List S97) {ds : List S29} (h : In16 ds) (hb : Bd ds) : ∀ {m : Nat}, m < 65536 → ∃ m' : Nat, m' < 65536 ∧ Ev (fun k => depends_closed.f k a b c d l4 ds (m : Int)) (m' : Int) ∧ ∀ f : Int, 0 ≤ f → (m'.testBit f.toNat = true ↔ Cl ds (BitS m) f) := by
 have hl1 : ∀ x : Nat, x < 65536 → ∀ e i y, ds.length - i = e → i ≤ ds.length → y < 65536 → ∀ r, Ev (fun k => if ((pass (ds.drop i) y : Nat) : Int) = (x : Int) then some (x : Int) else depends_closed.l0 k ((pass (ds.drop i) y : Nat) : Int) a b c d l4 ds) r →
   Ev (fun k => depends_closed.l1 k (x : Int) (y : Int) ds (ds.length : Int) (i : Int) a b c d l4 ds) r := by
  intro x hx e
  induction e with
  | zero =>
   intro i y he hi hy r hr
   rw [List.drop_of_length_le (by omega)] at hr
   exact Ev.step (fun k => by rw [depends_closed.l1, if_neg (by omega)]; rfl) hr
  | succ e ih =>
   intro i y he hi hy r hr
   have hlt : i < ds.length := by omega
   have hd := h (rd_T29 ds i) (by rw [rd_at29 ds i hlt]; exact List.getElem_mem _)
   rw [List.drop_eq_getElem_cons hlt, pass_cons, ← rd_at29 ds i hlt] at hr
   have hw := wm_lt (m := 0) (by decide) hd.1
   refine Ev.step (f := fun k => (depends_set_with.f k ((0 : Nat) : Int) (rd_T29 ds i).f2).bind fun t107 => (depends_set_contains.f (y : Int) t107).bind fun t108 => if t108 = true then (depends_set_with.f k (y : Int) [(rd_T29 ds i).f3]).bind fun t112 => depends_closed.l1 k (x : Int) t112 ds (ds.length : Int) ((i + 1 : Nat) : Int) a b c d l4 ds else depends_closed.l1 k (x : Int) (y : Int) ds (ds.length : Int) ((i + 1 : Nat) : Int) a b c d l4 ds)
    (fun k => by rw [depends_closed.l1, if_pos (by omega), if_pos (by omega), if_pos (by omega), wrap_succ i (by have := hb.1; omega)]; rfl) ?_
   refine Ev.bind (with_ev hd.1 (hb.at i hlt) (by decide)) ?_
   rw [contains_eq hy hw]
   simp only [Option.bind_some]
   by_cases hs : sub y (wm 0 (rd_T29 ds i).f2) = true
   ·rw [if_pos hs] at hr
    simp only [hs, if_true]
    refine Ev.bind (with_one hd.2.1 hd.2.2 hy) ?_
    exact ih (i + 1) _ (by omega) (by omega) (Nat.or_lt_two_pow (n := 16) hy (pow_lt hd.2.2)) r hr
   ·rw [if_neg hs] at hr
    simp only [hs, Bool.false_eq_true, if_false]
    exact ih (i + 1) _ (by omega) (by omega) hy r hr
 have hl0 : ∀ (e m : Nat), 65536 - m = e → m < 65536 → ∃ m' : Nat, m' < 65536 ∧ Ev (fun k => depends_closed.l0 k (m : Int) a b c d l4 ds) (m' : Int) ∧ sub m' m = true ∧ pass ds m' = m' ∧ ∀ S, (∀ f, BitS m f → Cl ds S f) → ∀ f, BitS m' f → Cl ds S f := by
  intro e
  induction e using Nat.strongRecOn with
  | _ e ih =>
   intro m he hm
   have hp := pass_lt h hm
   by_cases q : pass ds m = m
   ·refine ⟨m, hm, ?_, sub_refl _, q, fun S hS => hS⟩
    refine Ev.step (fun k => by rw [depends_closed.l0]; rfl) (hl1 m hm _ 0 m rfl (by omega) hm _ ?_)
    rw [List.drop_zero, q]
    simp only [if_true]
    exact Ev.now _
   ·have hlt : m < pass ds m := by
     have := sub_le (pass_sub ds m)
     omega
    obtain ⟨m', h1, h2, h3, h4, h5⟩ := ih (65536 - pass ds m) (by omega) (pass ds m) rfl hp
    refine ⟨m', h1, ?_, sub_trans h3 (pass_sub ds m), h4, fun S hS => h5 S (pass_sound h (fun _ h => h) hS)⟩
    refine Ev.step (fun k => by rw [depends_closed.l0]; rfl) (hl1 m hm _ 0 m rfl (by omega) hm _ ?_)
    rw [List.drop_zero]
    refine Ev.congr (fun k => by rw [if_neg (by omega)]) h2
 intro m hm
 obtain ⟨m', h1, h2, h3, h4, h5⟩ := hl0 _ m rfl hm
 refine ⟨m', h1, h2, fun f hf => ⟨fun hb => h5 _ (fun g hg => .base hg) f ⟨hf, hb⟩, fun hc => ?_⟩⟩
 have := hc.least (T := fun f => BitS m' f) (fun g hg => ⟨hg.1, sub_iff.1 h3 _ hg.2⟩) (fun e he hall => ⟨(h e he).2.1, pass_fix h4 e he ((sub_wm fun f hf => ((h e he).1 f hf).1).2 fun g hg => (hall g hg).2)⟩)
 exact this.2
end Go.Proofs.Ytfbcjeknibfjcaa.P
