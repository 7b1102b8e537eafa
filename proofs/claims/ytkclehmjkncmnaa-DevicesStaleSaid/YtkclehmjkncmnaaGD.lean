/- Several texts in one: A, G10, G11, G. -/
import Derived.Test.YtkclehmjkncmnaaWMore
import Derived.Maps.OwnIn
import Derived.Test.YtkclehmjkncmnaaGB
import Derived.Test.YtkclehmjkncmnaaMA
import Derived.Test.YtkclehmjkncmnaaR
import Derived.Test.YtkclehmjkncmnaaV
import Derived.BigRegion
import Derived.Deep.LoopGhost
import Derived.Deep.QuietTactic
import Derived.BigQuiet
import Derived.StillTailTactics
import Derived.RangeFuncNested
import Derived.WalkMore
import Derived.Sort.CutIn
import Derived.Test.YtkclehmjkncmnaaGC
/- Appends inside a fence: PrintWords' Kd.R_append for a fenced walk. -/
namespace Go.Proofs.YtkclehmjkncmnaaA
open Go.RowKit Go.Proofs.YtkclehmjkncmnaaW.PrintWords
section
variable {F : Fence} {nF : Nat} {P : Program} {ops : Array Oper} {rest : List Oper} {o : Oper} {a : Act} {Q : Exit → Act → World → Prop} {α : Type}
theorem R_append_in (d : Kd α) {w0 W : World} (base : Nat) (hgd : o.guard = none) (s x : Operand) (t e : TypeId) (z : Value) (bytes : Nat)
    (ho : o.op = .call { callee := .builtin .append, args := #[s, x], argTypes := #[t, t] })
    (ht : P.underlying t = some (.slice e)) (hinfo : (P.info? e).map (fun i => (i.zero, i.size, i.bytes)) = some (some z, d.sz, bytes)) (hz : z.cells.size = d.sz) (hs0 : 0 < d.sz) (hb0 : 0 < bytes)
    (v : Value) (xs : List α) (p : α) (cs : List Value) (ok okp : Nat → Prop) (hs : a.eval s = v) (hx : a.eval x = .slice (some ⟨W.heap.size, 0, none⟩) 1 1) (hp : d.M W base okp p cs) (hokp : ∀ k, okp k → ok k ∧ some k ≠ v.ownBlock) (hfresh : ∀ k, W.heap.size ≤ k → ok k)
    (HO : d.R e W base ok v xs) (HB : Below base w0 W) (hbase : base ≤ W.heap.size) (hl : (xs.length + 1) * bytes ≤ 140737488355328)
    (h : ∀ v1 w1, d.R e w1 base ok v1 (xs ++ [p]) → Below base w0 w1 → W.grownBy w1 v.ownBlock → (v1.ownBlock = v.ownBlock ∨ ∃ b, v1.ownBlock = some b ∧ W.heap.size ≤ b) → wpListIn F nF P ops Q rest (a.put o.dst v1) w1) :
    wpListIn F nF P ops Q (o :: rest) a (W.alloc (.cells cs.toArray e)) := by
  obtain ⟨h0, inner, hown, hr⟩ := HO
  obtain ⟨i0, hi, hzz⟩ := Option.map_eq_some_iff.1 hinfo
  simp only [Prod.mk.injEq] at hzz
  obtain ⟨hz0, hz1, hz2⟩ := hzz
  have hlen : xs.length + 1 ≤ 140737488355328 := Nat.le_trans (Nat.le_mul_of_pos_right _ hb0) hl
  have hys : cs.length = d.sz := d.K_len (d.K_of_M hp)
  refine wpListIn_append_own_at (W.alloc (.cells cs.toArray e)) hgd s x t ho base e i0 z d.sz bytes ht hi hz0 hz1 hz2 hz hs0 v xs.length inner hs (hown.alloc _) ⟨W.heap.size, 0, none⟩ 1 1 cs hx (by rw [hys]; simp)
    (by simpa using World.news_of_block (cs := cs.toArray) (t := e) (fr := (0, 0)) (heap_alloc_new W (.cells cs.toArray e))) (d.K_one (d.K_of_M hp)) (by simp only [maxLen]; omega) hl (by simp; omega) ?_
  intro v1 w1 hown1 hg _ hat
  have hg1 : W.grownBy w1 v.ownBlock := World.grownBy.trans (World.grownBy_alloc W _ _) hg
  have hat1 : v1.ownBlock = v.ownBlock ∨ ∃ b, v1.ownBlock = some b ∧ W.heap.size ≤ b := by
    rcases hat with hat | hat
    · exact .inl hat
    · exact .inr ⟨_, hat, by simp⟩
  exact h v1 w1 (Kd.R_appended h0 hr hp hokp hfresh hown1 hg1 hat1) ((HB.alloc hbase _).grown hg (by simp; omega) (own_base hown)) hg1 hat1
end
end Go.Proofs.YtkclehmjkncmnaaA
/- devices.both: the iterator over two lists in order. -/
namespace Go.Proofs.Ytkclehmjkncmnaa.P
open Go.RowKit Go.Shelf Go.Proofs.YtkclehmjkncmnaaR Go.Proofs.YtkclehmjkncmnaaW.PrintWords Go.Proofs.YtkclehmjkncmnaaW.PrintLast Go.Proofs.YtkclehmjkncmnaaW.PrintMore
set_option linter.unusedVariables false
attribute [local go_sem] Oper.semAt_some

theorem cmp_calls (a b : Int) (w : World) : Calls Try.prog 86 #[.int .i64 a, .int .i64 b] w fun e w' => e = .returned (.int .i64 (if a < b then -1 else if b < a then 1 else 0)) ∧ Drawn0 w w' := Q.cmp_Compare_int.calls a b _ w (cmp_ev a b)
theorem cmp_pos (k : Nat) (w : World) : Calls Try.prog 86 #[.int .i64 ((k : Int) + 1), .int .i64 0] w fun e w' => e = .returned (.int .i64 1) ∧ Drawn0 w w' := by
 have := cmp_calls ((k : Int) + 1) 0 w
 rwa [if_neg (by omega), if_pos (by omega)] at this
theorem cmp_zero (w : World) : Calls Try.prog 86 #[.int .i64 0, .int .i64 0] w fun e w' => e = .returned (.int .i64 0) ∧ Drawn0 w w' := cmp_calls 0 0 w
def cmpI (a b : Int) : Int := if a < b then -1 else if b < a then 1 else 0
theorem cmpI_calls (a b : Int) (w : World) : Calls Try.prog 86 #[.int .i64 a, .int .i64 b] w fun e w' => e = .returned (.int .i64 (cmpI a b)) ∧ Drawn0 w w' := cmp_calls a b w
theorem cmpI_pos (k : Nat) : cmpI ((k : Int) + 1) 0 = 1 := by rw [cmpI, if_neg (by omega), if_pos (by omega)]
theorem cmpI_zero : cmpI 0 0 = 0 := rfl
theorem quiet_drawn {P : Program} {f : FuncId} {args : Array Value} {w : World} {n : Nat} {v : Value} (h : Calls P f args (w.drewN n) fun e w' => e = .returned v ∧ Drawn0 (w.drewN n) w') : Calls P f args (w.drewN n) fun e w'' => e = .returned v ∧ ∃ m, w'' = w.drewN m :=
 Calls.quiet_of (h.mono fun _ _ ⟨he, hm⟩ => ⟨he, hm.out⟩)
theorem add0 (ad : Addr) : ad.add 0 = ad := by cases ad; simp [Addr.add]
/-- A list without its first element. -/
theorem cut1 (A : Option Addr) (c : Nat) (x : S40) (l : List S40) (hc : l.length + 1 ≤ c) : ∃ A' : Option Addr, (∀ W : World, (Instr.slice 26 (.slice A (l.length + 1) c) (some (.int .i64 1)) none none).run Try.prog W = .ok (.slice A' l.length (c - 1)) W) ∧ (∀ w, Kd.C k40 w A (l.length + 1) (x :: l) → Kd.C k40 w A' l.length l) := by
 obtain ⟨i0, hi, _, hz1, _⟩ := info_parts info40
 refine ⟨if c = 1 then A else A.map (·.add (1 * 6)), fun W => ?_, fun w h => ?_⟩
 ·have := cut_from (P := Try.prog) 26 40 .i64 Try.underlying26 hi 6 hz1 A (l.length + 1) c 1 (by omega) (by omega) W
  simpa using this
 ·have := Kd.C_drop (m := 1) (c := c) (xs := x :: l) h (by simp) (by simpa using hc)
  have e : k40.sz = 6 := rfl
  simpa [e] using this
theorem merged_nil_l (b : List S40) : merged [] b = b := by
 unfold merged
 induction b with
 | nil => rfl
 | cons y b ih => rw [List.length_cons, ← Nat.add_assoc]; simp only [both]; rw [ih]
theorem merged_nil_r (a : List S40) : merged a [] = a := by
 unfold merged
 induction a with
 | nil => rfl
 | cons y b ih => rw [List.length_cons, List.length_nil, Nat.add_zero]; simp only [both]; rw [show b.length = b.length + ([] : List S40).length from rfl, ih]
theorem both_succ : ∀ (k : Nat) (a b : List S40), a.length + b.length ≤ k → both (k + 1) a b = both k a b := by
 intro k
 induction k with
 | zero =>
  intro a b h
  have h1 : a = [] := List.eq_nil_of_length_eq_zero (by omega)
  have h2 : b = [] := List.eq_nil_of_length_eq_zero (by omega)
  subst h1 h2
  rfl
 | succ k ih =>
  intro a b h
  cases a with
  | nil => cases b with
   | nil => rfl
   | cons y b =>
    show y :: both (k + 1) [] b = y :: both k [] b
    rw [ih [] b (by simp at h ⊢; omega)]
  | cons x a => cases b with
   | nil =>
    show x :: both (k + 1) a [] = x :: both k a []
    rw [ih a [] (by simp at h ⊢; omega)]
   | cons y b =>
    simp only [List.length_cons] at h
    show (if cmpO x y < 0 then x :: both (k + 1) a (y :: b) else if cmpO x y = 0 then x :: both (k + 1) a b else y :: both (k + 1) (x :: a) b) = (if cmpO x y < 0 then x :: both k a (y :: b) else if cmpO x y = 0 then x :: both k a b else y :: both k (x :: a) b)
    rw [ih a (y :: b) (by simp; omega), ih a b (by omega), ih (x :: a) b (by simp; omega)]
theorem both_fuel (a b : List S40) : ∀ (k : Nat), a.length + b.length ≤ k → both k a b = merged a b := by
 intro k h
 induction k with
 | zero => rw [merged, show a.length + b.length = 0 by omega]
 | succ k ih =>
  by_cases e : a.length + b.length = k + 1
  ·rw [merged, e]
  ·rw [both_succ k a b (by omega), ih (by omega)]
theorem merged_cons (x y : S40) (a b : List S40) : merged (x :: a) (y :: b) = if cmpO x y < 0 then x :: merged a (y :: b) else if cmpO x y = 0 then x :: merged a b else y :: merged (x :: a) b := by
 rw [merged, show (x :: a).length + (y :: b).length = (a.length + b.length + 1) + 1 by simp; omega]
 simp only [both]
 rw [both_fuel _ _ _ (by simp; omega), both_fuel _ _ _ (by omega), both_fuel _ _ _ (by simp; omega)]
/-- An operation's box is filled, and a list's box turned on. -/
def Fill (W1 : World) (nb ba : Nat) (x : S40) (v : Value) : World := (((((((W1.setCell ⟨nb, 0, none⟩ (.int .i64 x.f0)).setCell ⟨nb, 1, none⟩ (.int .i64 x.f1)).setCell ⟨nb, 2, none⟩ (.int .i64 x.f2)).setCell ⟨nb, 3, none⟩ (.int .i64 x.f3)).setCell ⟨nb, 4, none⟩ (.int .i64 x.f4)).setCell ⟨nb, 5, none⟩ (.int .i64 x.f5)).setCell ⟨ba, 0, none⟩ v).drew
theorem six_here {W1 : World} {nb : Nat} {u0 u1 u2 u3 u4 u5 : Value} (h : W1.heap[nb]? = some (.cells #[u0, u1, u2, u3, u4, u5] 40)) (x : S40) :
  ((((((W1.setCell ⟨nb, 0, none⟩ (.int .i64 x.f0)).setCell ⟨nb, 1, none⟩ (.int .i64 x.f1)).setCell ⟨nb, 2, none⟩ (.int .i64 x.f2)).setCell ⟨nb, 3, none⟩ (.int .i64 x.f3)).setCell ⟨nb, 4, none⟩ (.int .i64 x.f4)).setCell ⟨nb, 5, none⟩ (.int .i64 x.f5)).heap[nb]? = some (.cells #[.int .i64 x.f0, .int .i64 x.f1, .int .i64 x.f2, .int .i64 x.f3, .int .i64 x.f4, .int .i64 x.f5] 40) :=
 blk_put (blk_put (blk_put (blk_put (blk_put (blk_put h 0 _ rfl) 1 _ rfl) 2 _ rfl) 3 _ rfl) 4 _ rfl) 5 _ rfl
theorem six_other {W1 : World} {nb k : Nat} (h1 : k ≠ nb) (x : S40) : ((((((W1.setCell ⟨nb, 0, none⟩ (.int .i64 x.f0)).setCell ⟨nb, 1, none⟩ (.int .i64 x.f1)).setCell ⟨nb, 2, none⟩ (.int .i64 x.f2)).setCell ⟨nb, 3, none⟩ (.int .i64 x.f3)).setCell ⟨nb, 4, none⟩ (.int .i64 x.f4)).setCell ⟨nb, 5, none⟩ (.int .i64 x.f5)).heap[k]? = W1.heap[k]? :=
 (Below.heap_setCell _ _ _ k h1).trans ((Below.heap_setCell _ _ _ k h1).trans ((Below.heap_setCell _ _ _ k h1).trans ((Below.heap_setCell _ _ _ k h1).trans ((Below.heap_setCell _ _ _ k h1).trans (Below.heap_setCell _ _ _ k h1)))))
theorem drew_at (W : World) (k : Nat) : W.drew.heap[k]? = W.heap[k]? := rfl
theorem fill_box {W1 : World} {nb ba : Nat} {u0 u1 u2 u3 u4 u5 : Value} (h : W1.heap[nb]? = some (.cells #[u0, u1, u2, u3, u4, u5] 40)) (hne : ba ≠ nb) (x : S40) (v : Value) : (Fill W1 nb ba x v).heap[nb]? = some (.cells #[.int .i64 x.f0, .int .i64 x.f1, .int .i64 x.f2, .int .i64 x.f3, .int .i64 x.f4, .int .i64 x.f5] 40) := by
 unfold Fill
 rw [drew_at, Below.heap_setCell _ _ _ nb (Ne.symm hne)]
 exact six_here h x
theorem fill_other {W1 : World} {nb ba k : Nat} (h1 : k ≠ nb) (h2 : k ≠ ba) (x : S40) (v : Value) : (Fill W1 nb ba x v).heap[k]? = W1.heap[k]? := by
 unfold Fill
 rw [drew_at, Below.heap_setCell _ _ _ k h2]
 exact six_other h1 x
theorem fill_list {W1 : World} {nb ba : Nat} {v0 : Value} (h : Boxed W1 ba 26 v0) (hne : ba ≠ nb) (x : S40) (v : Value) : Boxed (Fill W1 nb ba x v) ba 26 v := by
 unfold Fill Boxed
 rw [drew_at]
 exact Boxed.set v ((six_other hne x).trans h)
theorem fill_below {w W1 : World} {B nb ba : Nat} (h : Below B w W1) (h1 : B ≤ nb) (h2 : B ≤ ba) (x : S40) (v : Value) : Below B w (Fill W1 nb ba x v) :=
 below_drew1 (((((((h.setCell h1 _).setCell h1 _).setCell h1 _).setCell h1 _).setCell h1 _).setCell h1 _).setCell h2 _)
theorem fill_size (W1 : World) (nb ba : Nat) (x : S40) (v : Value) : (Fill W1 nb ba x v).heap.size = W1.heap.size := by simp [Fill]
/-- What the iterator may have written. -/
def Wrote (ba bb : Nat) (W W' : World) : Prop := Kept W W' (fun k => k = ba ∨ k = bb)
set_option maxRecDepth 100000 in
set_option maxHeartbeats 2000000 in
theorem both1_in (n : Nat) (hn : 1 ≤ n) (l ba bb : Nat) (as0 bs0 : List S40) (w0 : World) (base : Nat) (hne : ba ≠ bb) (hba : base ≤ ba) (hbb : base ≤ bb) (J : List S40 → World → Prop) (Jx : World → Prop)
  (hJB : ∀ pre W, J pre W → Below w0.heap.size w0 W)
  (hJ : ∀ pre W W', J pre W → Wrote ba bb W W' → Below base W W' → J pre W')
  (hY : ∀ pre o rest W, J pre W → pre ++ o :: rest = merged as0 bs0 → YieldAt Fence.wide (n - 1) Try.prog l #[s40v o] W fun e W' =>
   (e = .returned (.bool true) ∧ J (pre ++ [o]) W' ∧ W'.heap[ba]? = W.heap[ba]? ∧ W'.heap[bb]? = W.heap[bb]?) ∨ (e = .returned (.bool false) ∧ Jx W'))
  (A B : Option Addr) (ca cb : Nat) (hA : Kd.C k40 w0 A as0.length as0) (hca : as0.length ≤ ca) (hB : Kd.C k40 w0 B bs0.length bs0) (hcb : bs0.length ≤ cb)
  (W : World) (hxa : Boxed W ba 26 (.slice A as0.length ca)) (hxb : Boxed W bb 26 (.slice B bs0.length cb)) (h0 : J [] W) :
  CallsIn Fence.wide n Try.prog 85 #[.func (.yield l) #[] #[], .pointer (some ⟨ba, 0, none⟩), .pointer (some ⟨bb, 0, none⟩)] W fun e W' => (∃ v, e = .returned v) ∧ (J (merged as0 bs0) W' ∨ Jx W') := by
 have hu40 := Try.underlying40
 have HJB := Aside0.mk hJB
 have HJ := Aside0.mk hJ
 have HY := Aside0.mk hY
 have HI : Aside0 (∃ pre a b A ca B cb, pre ++ merged a b = merged as0 bs0 ∧ a.length + b.length = as0.length + bs0.length ∧ Boxed W ba 26 (.slice A a.length ca) ∧ Boxed W bb 26 (.slice B b.length cb) ∧ Kd.C k40 w0 A a.length a ∧ a.length ≤ ca ∧ Kd.C k40 w0 B b.length b ∧ b.length ≤ cb ∧ J pre W) :=
  ⟨[], as0, bs0, A, ca, B, cb, rfl, rfl, hxa, hxb, hA, hca, hB, hcb, h0⟩
 clear hJB hJ hY hA hca hB hcb hxa hxb h0
 refine callsIn_of_wp Try.func85 rfl trivial ?_ rfl
 simp only [Try.ntmps85, List.size_toArray, List.length_cons, List.length_nil, Nat.reduceAdd, Nat.reduceSub, Array.replicate_succ, Array.replicate_zero, List.push_toArray, List.append_toArray, List.nil_append, List.cons_append]
 refine wpIn_wide.2 ?_
 go_wp2
 go_loopg [] (as0.length + bs0.length) (fun k wr => Aside0 (∃ pre a b A ca B cb, pre ++ merged a b = merged as0 bs0 ∧ a.length + b.length = k ∧ Boxed wr ba 26 (.slice A a.length ca) ∧ Boxed wr bb 26 (.slice B b.length cb) ∧ Kd.C k40 w0 A a.length a ∧ a.length ≤ ca ∧ Kd.C k40 w0 B b.length b ∧ b.length ≤ cb ∧ J pre wr))
 case atStart => exact HI
 case round =>
  obtain ⟨pre, a, b, A, ca, B, cb, hpre, hk, hxa, hxb, hA, hca, hB, hcb, hJ⟩ := hrel.out
  clear hrel HI
  have HP := Aside0.mk hpre
  have HXA := Aside0.mk hxa
  have HXB := Aside0.mk hxb
  have HA := Aside0.mk hA
  have HB := Aside0.mk hB
  have HCA := Aside0.mk hca
  have HCB := Aside0.mk hcb
  have HJr := Aside0.mk hJ
  have ca_ := hxa.cell
  have cb_ := hxb.cell
  have fa_ := hxa.frozen
  have fb_ := hxb.frozen
  have HK := Aside0.mk hk
  clear hpre hxa hxb hA hca hB hcb hJ hk
  cases a with
  | nil => cases b with
   | nil =>
    simp only [List.length_nil] at ca_ cb_
    go_wp2
    go_end0
    exact ⟨⟨_, rfl⟩, .inl (by have := HP.out; rw [merged_nil_l, List.append_nil] at this; rw [← this]; exact HJr.out)⟩
   | cons y b =>
    simp only [List.length_nil, List.length_cons] at ca_ cb_
    have q0 := cmpI_zero
    have q1 := cmpI_pos b.length
    go_wp2
    go_quiet ((go_at_call 86; exact quiet_drawn (cmpI_calls _ _ _)))
    clear q0 q1 ca_ cb_ fa_ fb_
    obtain ⟨wq, hwq⟩ : ∃ wq, wr.drewN nq = wq := ⟨_, rfl⟩
    rw [hwq]
    have hbq : Below wr.heap.size wr wq := by rw [← hwq]; exact pw_below_drewN (Below.refl _ _) _
    have hxa : Boxed wq ba 26 (.slice A (0) ca) := (hbq.block _ HXA.out.lt).trans HXA.out
    have hxb : Boxed wq bb 26 (.slice B (b.length + 1) cb) := (hbq.block _ HXB.out.lt).trans HXB.out
    have ca_ := hxa.cell
    have cb_ := hxb.cell
    have fa_ := hxa.frozen
    have fb_ := hxb.frozen
    have hw0q : Below w0.heap.size w0 wq := (HJB.out _ _ HJr.out).trans (hbq.mono (HJB.out _ _ HJr.out).size)
    have HBQ := Aside0.mk hbq
    have HXQ := Aside0.mk hxa
    have HYQ := Aside0.mk hxb
    have HW0 := Aside0.mk hw0q
    clear hwq hbq hxa hxb hw0q
    go_upto_region 6 with (fail)
    obtain ⟨W1, hW1⟩ : ∃ W1, wq.alloc (.cells #[.int .i64 0, .int .i64 0, .int .i64 0, .int .i64 0, .int .i64 0, .int .i64 0] 40) = W1 := ⟨_, rfl⟩
    rw [hW1]
    have hbw : Below wq.heap.size wq W1 := by rw [← hW1]; exact below_alloc (Below.refl _ _) _
    have hnb : W1.heap[wq.heap.size]? = some (.cells #[.int .i64 0, .int .i64 0, .int .i64 0, .int .i64 0, .int .i64 0, .int .i64 0] 40) := by rw [← hW1]; exact World.alloc_heap_new _ _
    clear hW1 ca_ cb_ fa_ fb_
    have HNB := Aside0.mk hnb
    have HXV : Aside0 (Boxed W1 ba 26 (.slice A (0) ca)) := ⟨(hbw.block _ HXQ.out.lt).trans HXQ.out⟩
    have HYV : Aside0 (Boxed W1 bb 26 (.slice B (b.length + 1) cb)) := ⟨(hbw.block _ HYQ.out.lt).trans HYQ.out⟩
    have HWV : Aside0 (Wrote ba bb wr W1) := ⟨Nat.le_trans HBQ.out.size hbw.size, fun k hk hn => (hbw.block k (Nat.lt_of_lt_of_le hk HBQ.out.size)).trans (HBQ.out.block k hk)⟩
    have HBV : Aside0 (Below base wr W1) := ⟨(HBQ.out.mono (by have := HXA.out.lt; omega)).trans (hbw.mono (by have := HXA.out.lt; have := HBQ.out.size; omega))⟩
    have HZA : Aside0 (ba ≠ wq.heap.size) := ⟨by have := HXQ.out.lt; omega⟩
    have HZB : Aside0 (bb ≠ wq.heap.size) := ⟨by have := HYQ.out.lt; omega⟩
    have HZG : Aside0 (base ≤ wq.heap.size ∧ wr.heap.size ≤ wq.heap.size) := ⟨by have := HXA.out.lt; have := HBQ.out.size; omega, HBQ.out.size⟩
    clear hnb hbw HXQ HYQ HBQ HW0
    obtain ⟨B2, hsl, hA2⟩ := cut1 B cb y b (by have := HCB.out; simpa using this)
    have hw0v : Below w0.heap.size w0 W1 := HJB.out _ _ (HJ.out _ _ _ HJr.out HWV.out HBV.out)
    obtain ⟨ad, eA, g0, g1, g2, g3, g4, g5⟩ := at_T40 (Kd.C_below HB.out hw0v) 0 (by omega) (by simp)
    cases eA
    simp only [Int.toNat_zero, Nat.zero_mul, add0] at g0 g1 g2 g3 g4 g5
    have ca_ := HYV.out.cell
    have fa_ := HYV.out.frozen
    have n0 := blk_cell HNB.out 0
    have n1 := blk_cell HNB.out 1
    have n2 := blk_cell HNB.out 2
    have n3 := blk_cell HNB.out 3
    have n4 := blk_cell HNB.out 4
    have n5 := blk_cell HNB.out 5
    simp only [List.getElem?_toArray, List.getElem?_cons_zero, List.getElem?_cons_succ] at n0 n1 n2 n3 n4 n5
    have m0 := blk_frozen HNB.out 0
    have m1 := blk_frozen HNB.out 1
    have m2 := blk_frozen HNB.out 2
    have m3 := blk_frozen HNB.out 3
    have m4 := blk_frozen HNB.out 4
    have m5 := blk_frozen HNB.out 5
    have hq : (rd_T40 (y :: b) 0) = y := rfl
    rw [hq] at g0 g1 g2 g3 g4 g5
    have HA2_ := Aside0.mk hA2
    have hzl := HZB.out
    clear hq hA2 hw0v
    go_region
    obtain ⟨W2, hW2⟩ : ∃ Wz, Fill W1 wq.heap.size bb y (.slice B2 b.length (cb - 1)) = Wz := ⟨_, rfl⟩
    have hW2' := hW2
    unfold Fill at hW2'
    rw [hW2']
    have HNB2 : Aside0 (W2.heap[wq.heap.size]? = some (.cells #[.int .i64 y.f0, .int .i64 y.f1, .int .i64 y.f2, .int .i64 y.f3, .int .i64 y.f4, .int .i64 y.f5] 40)) := ⟨by rw [← hW2]; exact fill_box HNB.out hzl _ _⟩
    have HS2 : Aside0 (Boxed W2 bb 26 (.slice B2 b.length (cb - 1))) := ⟨by rw [← hW2]; exact fill_list HYV.out hzl _ _⟩
    have HO2 : Aside0 (Boxed W2 ba 26 (.slice A 0 ca)) := ⟨by rw [← hW2]; exact (fill_other HZA.out hne _ _).trans HXV.out⟩
    have HWV2 : Aside0 (Wrote ba bb wr W2) := ⟨by rw [← hW2]; exact ⟨by rw [fill_size]; exact HWV.out.1, fun k hk hn => (fill_other (by have := HZG.out.2; omega) (fun e => hn (.inr e)) _ _).trans (HWV.out.2 k hk hn)⟩⟩
    have HBV2 : Aside0 (Below base wr W2) := ⟨by rw [← hW2]; exact fill_below HBV.out HZG.out.1 hbb _ _⟩
    have HCm : Aside0 (Kd.C k40 w0 B2 b.length b ∧ b.length ≤ cb - 1) := ⟨HA2_.out _ HB.out, by have := HCB.out; simp at this; omega⟩
    clear hW2 hW2' hzl ca_ fa_ n0 n1 n2 n3 n4 n5 m0 m1 m2 m3 m4 m5 g0 g1 g2 g3 g4 g5 hsl HNB HXV HYV HWV HBV HA2_
    have HNB := HNB2
    have HYV := HS2
    have HXV := HO2
    have HWV := HWV2
    have HBV := HBV2
    clear HNB2 HS2 HO2 HWV2 HBV2
    have hp2 : pre ++ y :: merged [] b = merged as0 bs0 := by have := HP.out; rwa [merged_nil_l] at this ⊢
    obtain ⟨fn, tmps, assign, body, hy, hR⟩ := HY.out pre y _ W2 (HJ.out _ _ _ HJr.out HWV.out HBV.out) hp2
    simp only [s40v] at hy
    have o0 := blk_cell HNB.out 0
    have o1 := blk_cell HNB.out 1
    have o2 := blk_cell HNB.out 2
    have o3 := blk_cell HNB.out 3
    have o4 := blk_cell HNB.out 4
    have o5 := blk_cell HNB.out 5
    simp only [List.getElem?_toArray, List.getElem?_cons_zero, List.getElem?_cons_succ] at o0 o1 o2 o3 o4 o5
    have HRR := Aside0.mk hR
    have HP2 := Aside0.mk hp2
    clear hR hp2
    go_upto_region 9 with (fail)
    refine (wpIn_wide (n := n)).1 ?_
    gi_wp2
    refine HRR.out.mono ?_
    rintro e W3 (⟨rfl, hJ3, h3a, h3b⟩ | ⟨rfl, hx3⟩)
    ·have HJ3 := Aside0.mk hJ3
     have HL3 := Aside0.mk (h3a.trans HXV.out : Boxed W3 ba 26 _)
     have HM3 := Aside0.mk (h3b.trans HYV.out : Boxed W3 bb 26 _)
     clear hJ3 h3a h3b
     gi_wp2
     go_wp2
     go_roundg (b.length)
     case measure => have := HK.out; simp at this; omega
     case rel => exact ⟨pre ++ [y], [], b, A, ca, B2, cb - 1, by have := HP2.out; simpa using this, by simp, HL3.out, HM3.out, HA.out, HCA.out, HCm.out.1, HCm.out.2, HJ3.out⟩
    ·have HX3 := Aside0.mk hx3
     clear hx3
     gi_wp2
     go_wp2
     refine bodyPost_ret (results_none rfl _ _ _) rfl ?_
     exact ⟨⟨_, rfl⟩, .inr HX3.out⟩
  | cons x a => cases b with
   | nil =>
    simp only [List.length_nil, List.length_cons] at ca_ cb_
    have q0 := cmpI_zero
    have q1 := cmpI_pos a.length
    go_wp2
    go_quiet ((go_at_call 86; exact quiet_drawn (cmpI_calls _ _ _)))
    clear q0 q1 ca_ cb_ fa_ fb_
    obtain ⟨wq, hwq⟩ : ∃ wq, wr.drewN nq = wq := ⟨_, rfl⟩
    rw [hwq]
    have hbq : Below wr.heap.size wr wq := by rw [← hwq]; exact pw_below_drewN (Below.refl _ _) _
    have hxa : Boxed wq ba 26 (.slice A (a.length + 1) ca) := (hbq.block _ HXA.out.lt).trans HXA.out
    have hxb : Boxed wq bb 26 (.slice B (0) cb) := (hbq.block _ HXB.out.lt).trans HXB.out
    have ca_ := hxa.cell
    have cb_ := hxb.cell
    have fa_ := hxa.frozen
    have fb_ := hxb.frozen
    have hw0q : Below w0.heap.size w0 wq := (HJB.out _ _ HJr.out).trans (hbq.mono (HJB.out _ _ HJr.out).size)
    have HBQ := Aside0.mk hbq
    have HXQ := Aside0.mk hxa
    have HYQ := Aside0.mk hxb
    have HW0 := Aside0.mk hw0q
    clear hwq hbq hxa hxb hw0q
    go_upto_region 8 with (fail)
    obtain ⟨W1, hW1⟩ : ∃ W1, wq.alloc (.cells #[.int .i64 0, .int .i64 0, .int .i64 0, .int .i64 0, .int .i64 0, .int .i64 0] 40) = W1 := ⟨_, rfl⟩
    rw [hW1]
    have hbw : Below wq.heap.size wq W1 := by rw [← hW1]; exact below_alloc (Below.refl _ _) _
    have hnb : W1.heap[wq.heap.size]? = some (.cells #[.int .i64 0, .int .i64 0, .int .i64 0, .int .i64 0, .int .i64 0, .int .i64 0] 40) := by rw [← hW1]; exact World.alloc_heap_new _ _
    clear hW1 ca_ cb_ fa_ fb_
    have HNB := Aside0.mk hnb
    have HXV : Aside0 (Boxed W1 ba 26 (.slice A (a.length + 1) ca)) := ⟨(hbw.block _ HXQ.out.lt).trans HXQ.out⟩
    have HYV : Aside0 (Boxed W1 bb 26 (.slice B (0) cb)) := ⟨(hbw.block _ HYQ.out.lt).trans HYQ.out⟩
    have HWV : Aside0 (Wrote ba bb wr W1) := ⟨Nat.le_trans HBQ.out.size hbw.size, fun k hk hn => (hbw.block k (Nat.lt_of_lt_of_le hk HBQ.out.size)).trans (HBQ.out.block k hk)⟩
    have HBV : Aside0 (Below base wr W1) := ⟨(HBQ.out.mono (by have := HXA.out.lt; omega)).trans (hbw.mono (by have := HXA.out.lt; have := HBQ.out.size; omega))⟩
    have HZA : Aside0 (ba ≠ wq.heap.size) := ⟨by have := HXQ.out.lt; omega⟩
    have HZB : Aside0 (bb ≠ wq.heap.size) := ⟨by have := HYQ.out.lt; omega⟩
    have HZG : Aside0 (base ≤ wq.heap.size ∧ wr.heap.size ≤ wq.heap.size) := ⟨by have := HXA.out.lt; have := HBQ.out.size; omega, HBQ.out.size⟩
    clear hnb hbw HXQ HYQ HBQ HW0
    obtain ⟨A2, hsl, hA2⟩ := cut1 A ca x a (by have := HCA.out; simpa using this)
    have hw0v : Below w0.heap.size w0 W1 := HJB.out _ _ (HJ.out _ _ _ HJr.out HWV.out HBV.out)
    obtain ⟨ad, eA, g0, g1, g2, g3, g4, g5⟩ := at_T40 (Kd.C_below HA.out hw0v) 0 (by omega) (by simp)
    cases eA
    simp only [Int.toNat_zero, Nat.zero_mul, add0] at g0 g1 g2 g3 g4 g5
    have ca_ := HXV.out.cell
    have fa_ := HXV.out.frozen
    have n0 := blk_cell HNB.out 0
    have n1 := blk_cell HNB.out 1
    have n2 := blk_cell HNB.out 2
    have n3 := blk_cell HNB.out 3
    have n4 := blk_cell HNB.out 4
    have n5 := blk_cell HNB.out 5
    simp only [List.getElem?_toArray, List.getElem?_cons_zero, List.getElem?_cons_succ] at n0 n1 n2 n3 n4 n5
    have m0 := blk_frozen HNB.out 0
    have m1 := blk_frozen HNB.out 1
    have m2 := blk_frozen HNB.out 2
    have m3 := blk_frozen HNB.out 3
    have m4 := blk_frozen HNB.out 4
    have m5 := blk_frozen HNB.out 5
    have hq : (rd_T40 (x :: a) 0) = x := rfl
    rw [hq] at g0 g1 g2 g3 g4 g5
    have HA2_ := Aside0.mk hA2
    have hzl := HZA.out
    clear hq hA2 hw0v
    go_region
    obtain ⟨W2, hW2⟩ : ∃ Wz, Fill W1 wq.heap.size ba x (.slice A2 a.length (ca - 1)) = Wz := ⟨_, rfl⟩
    have hW2' := hW2
    unfold Fill at hW2'
    rw [hW2']
    have HNB2 : Aside0 (W2.heap[wq.heap.size]? = some (.cells #[.int .i64 x.f0, .int .i64 x.f1, .int .i64 x.f2, .int .i64 x.f3, .int .i64 x.f4, .int .i64 x.f5] 40)) := ⟨by rw [← hW2]; exact fill_box HNB.out hzl _ _⟩
    have HS2 : Aside0 (Boxed W2 ba 26 (.slice A2 a.length (ca - 1))) := ⟨by rw [← hW2]; exact fill_list HXV.out hzl _ _⟩
    have HO2 : Aside0 (Boxed W2 bb 26 (.slice B 0 cb)) := ⟨by rw [← hW2]; exact (fill_other HZB.out (Ne.symm hne) _ _).trans HYV.out⟩
    have HWV2 : Aside0 (Wrote ba bb wr W2) := ⟨by rw [← hW2]; exact ⟨by rw [fill_size]; exact HWV.out.1, fun k hk hn => (fill_other (by have := HZG.out.2; omega) (fun e => hn (.inl e)) _ _).trans (HWV.out.2 k hk hn)⟩⟩
    have HBV2 : Aside0 (Below base wr W2) := ⟨by rw [← hW2]; exact fill_below HBV.out HZG.out.1 hba _ _⟩
    have HCl : Aside0 (Kd.C k40 w0 A2 a.length a ∧ a.length ≤ ca - 1) := ⟨HA2_.out _ HA.out, by have := HCA.out; simp at this; omega⟩
    clear hW2 hW2' hzl ca_ fa_ n0 n1 n2 n3 n4 n5 m0 m1 m2 m3 m4 m5 g0 g1 g2 g3 g4 g5 hsl HNB HXV HYV HWV HBV HA2_
    have HNB := HNB2
    have HXV := HS2
    have HYV := HO2
    have HWV := HWV2
    have HBV := HBV2
    clear HNB2 HS2 HO2 HWV2 HBV2
    have hp2 : pre ++ x :: merged a [] = merged as0 bs0 := by have := HP.out; rwa [merged_nil_r] at this ⊢
    obtain ⟨fn, tmps, assign, body, hy, hR⟩ := HY.out pre x _ W2 (HJ.out _ _ _ HJr.out HWV.out HBV.out) hp2
    simp only [s40v] at hy
    have o0 := blk_cell HNB.out 0
    have o1 := blk_cell HNB.out 1
    have o2 := blk_cell HNB.out 2
    have o3 := blk_cell HNB.out 3
    have o4 := blk_cell HNB.out 4
    have o5 := blk_cell HNB.out 5
    simp only [List.getElem?_toArray, List.getElem?_cons_zero, List.getElem?_cons_succ] at o0 o1 o2 o3 o4 o5
    have HRR := Aside0.mk hR
    have HP2 := Aside0.mk hp2
    clear hR hp2
    go_upto_region 9 with (fail)
    refine (wpIn_wide (n := n)).1 ?_
    gi_wp2
    refine HRR.out.mono ?_
    rintro e W3 (⟨rfl, hJ3, h3a, h3b⟩ | ⟨rfl, hx3⟩)
    ·have HJ3 := Aside0.mk hJ3
     have HL3 := Aside0.mk (h3a.trans HXV.out : Boxed W3 ba 26 _)
     have HM3 := Aside0.mk (h3b.trans HYV.out : Boxed W3 bb 26 _)
     clear hJ3 h3a h3b
     gi_wp2
     go_wp2
     go_roundg (a.length)
     case measure => have := HK.out; simp at this; omega
     case rel => exact ⟨pre ++ [x], a, [], A2, ca - 1, B, cb, by have := HP2.out; simpa using this, by simp, HL3.out, HM3.out, HCl.out.1, HCl.out.2, HB.out, HCB.out, HJ3.out⟩
    ·have HX3 := Aside0.mk hx3
     clear hx3
     gi_wp2
     go_wp2
     refine bodyPost_ret (results_none rfl _ _ _) rfl ?_
     exact ⟨⟨_, rfl⟩, .inr HX3.out⟩
   | cons y b =>
    simp only [List.length_nil, List.length_cons] at ca_ cb_
    have q0 := cmpI_pos a.length
    have q1 := cmpI_pos b.length
    go_wp2
    go_quiet ((go_at_call 86; exact quiet_drawn (cmpI_calls _ _ _)))
    clear q0 q1 ca_ cb_ fa_ fb_
    obtain ⟨wq, hwq⟩ : ∃ wq, wr.drewN nq = wq := ⟨_, rfl⟩
    rw [hwq]
    have hbq : Below wr.heap.size wr wq := by rw [← hwq]; exact pw_below_drewN (Below.refl _ _) _
    have hxa : Boxed wq ba 26 (.slice A (a.length + 1) ca) := (hbq.block _ HXA.out.lt).trans HXA.out
    have hxb : Boxed wq bb 26 (.slice B (b.length + 1) cb) := (hbq.block _ HXB.out.lt).trans HXB.out
    have ca_ := hxa.cell
    have cb_ := hxb.cell
    have fa_ := hxa.frozen
    have fb_ := hxb.frozen
    have hw0q : Below w0.heap.size w0 wq := (HJB.out _ _ HJr.out).trans (hbq.mono (HJB.out _ _ HJr.out).size)
    have HBQ := Aside0.mk hbq
    have HXQ := Aside0.mk hxa
    have HYQ := Aside0.mk hxb
    have HW0 := Aside0.mk hw0q
    clear hwq hbq hxa hxb hw0q
    obtain ⟨ad, eA, g0, g1, g2, g3, g4, g5⟩ := at_T40 (Kd.C_below HA.out HW0.out) 0 (by omega) (by simp)
    obtain ⟨bd, eB, j0, j1, j2, j3, j4, j5⟩ := at_T40 (Kd.C_below HB.out HW0.out) 0 (by omega) (by simp)
    cases eA
    cases eB
    simp only [Int.toNat_zero, Nat.zero_mul, add0] at g0 g1 g2 g3 g4 g5 j0 j1 j2 j3 j4 j5
    have hq : (rd_T40 (x :: a) 0) = x := rfl
    have hr : (rd_T40 (y :: b) 0) = y := rfl
    rw [hq] at g0 g1 g2 g3 g4 g5
    rw [hr] at j0 j1 j2 j3 j4 j5
    clear hq hr
    go_upto_region 3 with (fail)
    go_still_tail 6, (by kernel_rfl)
    clear ca_ cb_ fa_ fb_
    go_wp2_with (go_at_call 65; (with_reducible refine (compare_calls x y _).mono ?_); rintro e w5 ⟨rfl, hb5⟩; refine Aside0.out (p := _) ?_)
    refine ⟨?_⟩
    have hb6 : Below wq.heap.size wq w5 := below2 (below_drew1 (Below.refl _ _)) hb5
    have hxa : Boxed w5 ba 26 (.slice (some ad) (a.length + 1) ca) := (hb6.block _ HXQ.out.lt).trans HXQ.out
    have hxb : Boxed w5 bb 26 (.slice (some bd) (b.length + 1) cb) := (hb6.block _ HYQ.out.lt).trans HYQ.out
    have hbq : Below wr.heap.size wr w5 := HBQ.out.trans (hb6.mono HBQ.out.size)
    clear HXQ HYQ HBQ g0 g1 g2 g3 g4 g5 j0 j1 j2 j3 j4 j5 hb5 hb6
    have ca_ := hxa.cell
    have cb_ := hxb.cell
    have fa_ := hxa.frozen
    have fb_ := hxb.frozen
    have HBQ := Aside0.mk hbq
    have HXQ := Aside0.mk hxa
    have HYQ := Aside0.mk hxb
    clear hbq hxa hxb
    by_cases hlt : cmpO x y < 0
    ·have d1 : decide (0 ≤ cmpO x y) = false := decide_eq_false (by omega)
     have d2 : decide (cmpO x y ≤ 0) = true := decide_eq_true (by omega)
     have HLT := Aside0.mk hlt
     clear hlt
     go_upto_region 8 with (fail)
     obtain ⟨W1, hW1⟩ : ∃ W1, w5.alloc (.cells #[.int .i64 0, .int .i64 0, .int .i64 0, .int .i64 0, .int .i64 0, .int .i64 0] 40) = W1 := ⟨_, rfl⟩
     rw [hW1]
     have hbw : Below w5.heap.size w5 W1 := by rw [← hW1]; exact below_alloc (Below.refl _ _) _
     have hnb : W1.heap[w5.heap.size]? = some (.cells #[.int .i64 0, .int .i64 0, .int .i64 0, .int .i64 0, .int .i64 0, .int .i64 0] 40) := by rw [← hW1]; exact World.alloc_heap_new _ _
     clear hW1 ca_ cb_ fa_ fb_
     have HNB := Aside0.mk hnb
     have HXV : Aside0 (Boxed W1 ba 26 (.slice (some ad) (a.length + 1) ca)) := ⟨(hbw.block _ HXQ.out.lt).trans HXQ.out⟩
     have HYV : Aside0 (Boxed W1 bb 26 (.slice (some bd) (b.length + 1) cb)) := ⟨(hbw.block _ HYQ.out.lt).trans HYQ.out⟩
     have HWV : Aside0 (Wrote ba bb wr W1) := ⟨Nat.le_trans HBQ.out.size hbw.size, fun k hk hn => (hbw.block k (Nat.lt_of_lt_of_le hk HBQ.out.size)).trans (HBQ.out.block k hk)⟩
     have HBV : Aside0 (Below base wr W1) := ⟨(HBQ.out.mono (by have := HXA.out.lt; omega)).trans (hbw.mono (by have := HXA.out.lt; have := HBQ.out.size; omega))⟩
     have HZA : Aside0 (ba ≠ w5.heap.size) := ⟨by have := HXQ.out.lt; omega⟩
     have HZB : Aside0 (bb ≠ w5.heap.size) := ⟨by have := HYQ.out.lt; omega⟩
     have HZG : Aside0 (base ≤ w5.heap.size ∧ wr.heap.size ≤ w5.heap.size) := ⟨by have := HXA.out.lt; have := HBQ.out.size; omega, HBQ.out.size⟩
     clear hnb hbw HXQ HYQ HBQ HW0
     obtain ⟨A2, hsl, hA2⟩ := cut1 (some ad) ca x a (by have := HCA.out; simpa using this)
     have hw0v : Below w0.heap.size w0 W1 := HJB.out _ _ (HJ.out _ _ _ HJr.out HWV.out HBV.out)
     obtain ⟨ad, eA, g0, g1, g2, g3, g4, g5⟩ := at_T40 (Kd.C_below HA.out hw0v) 0 (by omega) (by simp)
     cases eA
     simp only [Int.toNat_zero, Nat.zero_mul, add0] at g0 g1 g2 g3 g4 g5
     have ca_ := HXV.out.cell
     have fa_ := HXV.out.frozen
     have n0 := blk_cell HNB.out 0
     have n1 := blk_cell HNB.out 1
     have n2 := blk_cell HNB.out 2
     have n3 := blk_cell HNB.out 3
     have n4 := blk_cell HNB.out 4
     have n5 := blk_cell HNB.out 5
     simp only [List.getElem?_toArray, List.getElem?_cons_zero, List.getElem?_cons_succ] at n0 n1 n2 n3 n4 n5
     have m0 := blk_frozen HNB.out 0
     have m1 := blk_frozen HNB.out 1
     have m2 := blk_frozen HNB.out 2
     have m3 := blk_frozen HNB.out 3
     have m4 := blk_frozen HNB.out 4
     have m5 := blk_frozen HNB.out 5
     have hq : (rd_T40 (x :: a) 0) = x := rfl
     rw [hq] at g0 g1 g2 g3 g4 g5
     have HA2_ := Aside0.mk hA2
     have hzl := HZA.out
     clear hq hA2 hw0v
     go_region
     obtain ⟨W2, hW2⟩ : ∃ Wz, Fill W1 w5.heap.size ba x (.slice A2 a.length (ca - 1)) = Wz := ⟨_, rfl⟩
     have hW2' := hW2
     unfold Fill at hW2'
     rw [hW2']
     have HNB2 : Aside0 (W2.heap[w5.heap.size]? = some (.cells #[.int .i64 x.f0, .int .i64 x.f1, .int .i64 x.f2, .int .i64 x.f3, .int .i64 x.f4, .int .i64 x.f5] 40)) := ⟨by rw [← hW2]; exact fill_box HNB.out hzl _ _⟩
     have HS2 : Aside0 (Boxed W2 ba 26 (.slice A2 a.length (ca - 1))) := ⟨by rw [← hW2]; exact fill_list HXV.out hzl _ _⟩
     have HO2 : Aside0 (Boxed W2 bb 26 (.slice (some bd) (b.length + 1) cb)) := ⟨by rw [← hW2]; exact (fill_other HZB.out (Ne.symm hne) _ _).trans HYV.out⟩
     have HWV2 : Aside0 (Wrote ba bb wr W2) := ⟨by rw [← hW2]; exact ⟨by rw [fill_size]; exact HWV.out.1, fun k hk hn => (fill_other (by have := HZG.out.2; omega) (fun e => hn (.inl e)) _ _).trans (HWV.out.2 k hk hn)⟩⟩
     have HBV2 : Aside0 (Below base wr W2) := ⟨by rw [← hW2]; exact fill_below HBV.out HZG.out.1 hba _ _⟩
     have HCl : Aside0 (Kd.C k40 w0 A2 a.length a ∧ a.length ≤ ca - 1) := ⟨HA2_.out _ HA.out, by have := HCA.out; simp at this; omega⟩
     clear hW2 hW2' hzl ca_ fa_ n0 n1 n2 n3 n4 n5 m0 m1 m2 m3 m4 m5 g0 g1 g2 g3 g4 g5 hsl HNB HXV HYV HWV HBV HA2_
     have HNB := HNB2
     have HXV := HS2
     have HYV := HO2
     have HWV := HWV2
     have HBV := HBV2
     clear HNB2 HS2 HO2 HWV2 HBV2
     have hp2 : pre ++ x :: merged a (y :: b) = merged as0 bs0 := by have := HP.out; rwa [merged_cons, if_pos HLT.out] at this
     obtain ⟨fn, tmps, assign, body, hy, hR⟩ := HY.out pre x _ W2 (HJ.out _ _ _ HJr.out HWV.out HBV.out) hp2
     simp only [s40v] at hy
     have o0 := blk_cell HNB.out 0
     have o1 := blk_cell HNB.out 1
     have o2 := blk_cell HNB.out 2
     have o3 := blk_cell HNB.out 3
     have o4 := blk_cell HNB.out 4
     have o5 := blk_cell HNB.out 5
     simp only [List.getElem?_toArray, List.getElem?_cons_zero, List.getElem?_cons_succ] at o0 o1 o2 o3 o4 o5
     have HRR := Aside0.mk hR
     have HP2 := Aside0.mk hp2
     clear hR hp2
     go_upto_region 9 with (fail)
     refine (wpIn_wide (n := n)).1 ?_
     gi_wp2
     refine HRR.out.mono ?_
     rintro e W3 (⟨rfl, hJ3, h3a, h3b⟩ | ⟨rfl, hx3⟩)
     ·have HJ3 := Aside0.mk hJ3
      have HL3 := Aside0.mk (h3a.trans HXV.out : Boxed W3 ba 26 _)
      have HM3 := Aside0.mk (h3b.trans HYV.out : Boxed W3 bb 26 _)
      clear hJ3 h3a h3b
      gi_wp2
      go_wp2
      go_roundg (a.length + (b.length + 1))
      case measure => have := HK.out; simp at this; omega
      case rel => exact ⟨pre ++ [x], a, y :: b, A2, ca - 1, some bd, cb, by have := HP2.out; simpa using this, by simp, HL3.out, HM3.out, HCl.out.1, HCl.out.2, HB.out, HCB.out, HJ3.out⟩
     ·have HX3 := Aside0.mk hx3
      clear hx3
      gi_wp2
      go_wp2
      refine bodyPost_ret (results_none rfl _ _ _) rfl ?_
      exact ⟨⟨_, rfl⟩, .inr HX3.out⟩
    ·by_cases heq : cmpO x y = 0
     ·have d1 : decide (0 ≤ cmpO x y) = true := decide_eq_true (by omega)
      have d2 : decide (cmpO x y ≤ 0) = true := decide_eq_true (by omega)
      have HLT := Aside0.mk hlt
      have HEQ := Aside0.mk heq
      clear hlt heq
      go_upto_region 6 with (fail)
      obtain ⟨W1, hW1⟩ : ∃ W1, w5.alloc (.cells #[.int .i64 0, .int .i64 0, .int .i64 0, .int .i64 0, .int .i64 0, .int .i64 0] 40) = W1 := ⟨_, rfl⟩
      rw [hW1]
      have hbw : Below w5.heap.size w5 W1 := by rw [← hW1]; exact below_alloc (Below.refl _ _) _
      have hnb : W1.heap[w5.heap.size]? = some (.cells #[.int .i64 0, .int .i64 0, .int .i64 0, .int .i64 0, .int .i64 0, .int .i64 0] 40) := by rw [← hW1]; exact World.alloc_heap_new _ _
      clear hW1 ca_ cb_ fa_ fb_
      have HNB := Aside0.mk hnb
      have HXV : Aside0 (Boxed W1 ba 26 (.slice (some ad) (a.length + 1) ca)) := ⟨(hbw.block _ HXQ.out.lt).trans HXQ.out⟩
      have HYV : Aside0 (Boxed W1 bb 26 (.slice (some bd) (b.length + 1) cb)) := ⟨(hbw.block _ HYQ.out.lt).trans HYQ.out⟩
      have HWV : Aside0 (Wrote ba bb wr W1) := ⟨Nat.le_trans HBQ.out.size hbw.size, fun k hk hn => (hbw.block k (Nat.lt_of_lt_of_le hk HBQ.out.size)).trans (HBQ.out.block k hk)⟩
      have HBV : Aside0 (Below base wr W1) := ⟨(HBQ.out.mono (by have := HXA.out.lt; omega)).trans (hbw.mono (by have := HXA.out.lt; have := HBQ.out.size; omega))⟩
      have HZA : Aside0 (ba ≠ w5.heap.size) := ⟨by have := HXQ.out.lt; omega⟩
      have HZB : Aside0 (bb ≠ w5.heap.size) := ⟨by have := HYQ.out.lt; omega⟩
      have HZG : Aside0 (base ≤ w5.heap.size ∧ wr.heap.size ≤ w5.heap.size) := ⟨by have := HXA.out.lt; have := HBQ.out.size; omega, HBQ.out.size⟩
      clear hnb hbw HXQ HYQ HBQ HW0
      obtain ⟨B2, hsl, hA2⟩ := cut1 (some bd) cb y b (by have := HCB.out; simpa using this)
      have hw0v : Below w0.heap.size w0 W1 := HJB.out _ _ (HJ.out _ _ _ HJr.out HWV.out HBV.out)
      obtain ⟨ad, eA, g0, g1, g2, g3, g4, g5⟩ := at_T40 (Kd.C_below HB.out hw0v) 0 (by omega) (by simp)
      cases eA
      simp only [Int.toNat_zero, Nat.zero_mul, add0] at g0 g1 g2 g3 g4 g5
      have ca_ := HYV.out.cell
      have fa_ := HYV.out.frozen
      have n0 := blk_cell HNB.out 0
      have n1 := blk_cell HNB.out 1
      have n2 := blk_cell HNB.out 2
      have n3 := blk_cell HNB.out 3
      have n4 := blk_cell HNB.out 4
      have n5 := blk_cell HNB.out 5
      simp only [List.getElem?_toArray, List.getElem?_cons_zero, List.getElem?_cons_succ] at n0 n1 n2 n3 n4 n5
      have m0 := blk_frozen HNB.out 0
      have m1 := blk_frozen HNB.out 1
      have m2 := blk_frozen HNB.out 2
      have m3 := blk_frozen HNB.out 3
      have m4 := blk_frozen HNB.out 4
      have m5 := blk_frozen HNB.out 5
      have hq : (rd_T40 (y :: b) 0) = y := rfl
      rw [hq] at g0 g1 g2 g3 g4 g5
      have HA2_ := Aside0.mk hA2
      have hzl := HZB.out
      clear hq hA2 hw0v
      go_region
      obtain ⟨W2, hW2⟩ : ∃ Wz, Fill W1 w5.heap.size bb y (.slice B2 b.length (cb - 1)) = Wz := ⟨_, rfl⟩
      have hW2' := hW2
      unfold Fill at hW2'
      rw [hW2']
      have HNB2 : Aside0 (W2.heap[w5.heap.size]? = some (.cells #[.int .i64 y.f0, .int .i64 y.f1, .int .i64 y.f2, .int .i64 y.f3, .int .i64 y.f4, .int .i64 y.f5] 40)) := ⟨by rw [← hW2]; exact fill_box HNB.out hzl _ _⟩
      have HS2 : Aside0 (Boxed W2 bb 26 (.slice B2 b.length (cb - 1))) := ⟨by rw [← hW2]; exact fill_list HYV.out hzl _ _⟩
      have HO2 : Aside0 (Boxed W2 ba 26 (.slice (some ad) (a.length + 1) ca)) := ⟨by rw [← hW2]; exact (fill_other HZA.out hne _ _).trans HXV.out⟩
      have HWV2 : Aside0 (Wrote ba bb wr W2) := ⟨by rw [← hW2]; exact ⟨by rw [fill_size]; exact HWV.out.1, fun k hk hn => (fill_other (by have := HZG.out.2; omega) (fun e => hn (.inr e)) _ _).trans (HWV.out.2 k hk hn)⟩⟩
      have HBV2 : Aside0 (Below base wr W2) := ⟨by rw [← hW2]; exact fill_below HBV.out HZG.out.1 hbb _ _⟩
      have HCm : Aside0 (Kd.C k40 w0 B2 b.length b ∧ b.length ≤ cb - 1) := ⟨HA2_.out _ HB.out, by have := HCB.out; simp at this; omega⟩
      clear hW2 hW2' hzl ca_ fa_ n0 n1 n2 n3 n4 n5 m0 m1 m2 m3 m4 m5 g0 g1 g2 g3 g4 g5 hsl HNB HXV HYV HWV HBV HA2_
      have HNB := HNB2
      have HYV := HS2
      have HXV := HO2
      have HWV := HWV2
      have HBV := HBV2
      clear HNB2 HS2 HO2 HWV2 HBV2
      go_upto_region 8 with (fail)
      obtain ⟨A2, hsl, hA2⟩ := cut1 (some ad) ca x a (by have := HCA.out; simpa using this)
      have hw0v : Below w0.heap.size w0 W2 := HJB.out _ _ (HJ.out _ _ _ HJr.out HWV.out HBV.out)
      obtain ⟨ad, eA, g0, g1, g2, g3, g4, g5⟩ := at_T40 (Kd.C_below HA.out hw0v) 0 (by omega) (by simp)
      cases eA
      simp only [Int.toNat_zero, Nat.zero_mul, add0] at g0 g1 g2 g3 g4 g5
      have ca_ := HXV.out.cell
      have fa_ := HXV.out.frozen
      have n0 := blk_cell HNB.out 0
      have n1 := blk_cell HNB.out 1
      have n2 := blk_cell HNB.out 2
      have n3 := blk_cell HNB.out 3
      have n4 := blk_cell HNB.out 4
      have n5 := blk_cell HNB.out 5
      simp only [List.getElem?_toArray, List.getElem?_cons_zero, List.getElem?_cons_succ] at n0 n1 n2 n3 n4 n5
      have m0 := blk_frozen HNB.out 0
      have m1 := blk_frozen HNB.out 1
      have m2 := blk_frozen HNB.out 2
      have m3 := blk_frozen HNB.out 3
      have m4 := blk_frozen HNB.out 4
      have m5 := blk_frozen HNB.out 5
      have hq : (rd_T40 (x :: a) 0) = x := rfl
      rw [hq] at g0 g1 g2 g3 g4 g5
      have HA2_ := Aside0.mk hA2
      have hzl := HZA.out
      clear hq hA2 hw0v
      go_region
      obtain ⟨W4, hW2⟩ : ∃ Wz, Fill W2 w5.heap.size ba x (.slice A2 a.length (ca - 1)) = Wz := ⟨_, rfl⟩
      have hW2' := hW2
      unfold Fill at hW2'
      rw [hW2']
      have HNB2 : Aside0 (W4.heap[w5.heap.size]? = some (.cells #[.int .i64 x.f0, .int .i64 x.f1, .int .i64 x.f2, .int .i64 x.f3, .int .i64 x.f4, .int .i64 x.f5] 40)) := ⟨by rw [← hW2]; exact fill_box HNB.out hzl _ _⟩
      have HS2 : Aside0 (Boxed W4 ba 26 (.slice A2 a.length (ca - 1))) := ⟨by rw [← hW2]; exact fill_list HXV.out hzl _ _⟩
      have HO2 : Aside0 (Boxed W4 bb 26 (.slice B2 b.length (cb - 1))) := ⟨by rw [← hW2]; exact (fill_other HZB.out (Ne.symm hne) _ _).trans HYV.out⟩
      have HWV2 : Aside0 (Wrote ba bb wr W4) := ⟨by rw [← hW2]; exact ⟨by rw [fill_size]; exact HWV.out.1, fun k hk hn => (fill_other (by have := HZG.out.2; omega) (fun e => hn (.inl e)) _ _).trans (HWV.out.2 k hk hn)⟩⟩
      have HBV2 : Aside0 (Below base wr W4) := ⟨by rw [← hW2]; exact fill_below HBV.out HZG.out.1 hba _ _⟩
      have HCl : Aside0 (Kd.C k40 w0 A2 a.length a ∧ a.length ≤ ca - 1) := ⟨HA2_.out _ HA.out, by have := HCA.out; simp at this; omega⟩
      clear hW2 hW2' hzl ca_ fa_ n0 n1 n2 n3 n4 n5 m0 m1 m2 m3 m4 m5 g0 g1 g2 g3 g4 g5 hsl HNB HXV HYV HWV HBV HA2_
      have HNB := HNB2
      have HXV := HS2
      have HYV := HO2
      have HWV := HWV2
      have HBV := HBV2
      clear HNB2 HS2 HO2 HWV2 HBV2
      have hp2 : pre ++ x :: merged a b = merged as0 bs0 := by have := HP.out; rwa [merged_cons, if_neg HLT.out, if_pos HEQ.out] at this
      obtain ⟨fn, tmps, assign, body, hy, hR⟩ := HY.out pre x _ W4 (HJ.out _ _ _ HJr.out HWV.out HBV.out) hp2
      simp only [s40v] at hy
      have o0 := blk_cell HNB.out 0
      have o1 := blk_cell HNB.out 1
      have o2 := blk_cell HNB.out 2
      have o3 := blk_cell HNB.out 3
      have o4 := blk_cell HNB.out 4
      have o5 := blk_cell HNB.out 5
      simp only [List.getElem?_toArray, List.getElem?_cons_zero, List.getElem?_cons_succ] at o0 o1 o2 o3 o4 o5
      have HRR := Aside0.mk hR
      have HP2 := Aside0.mk hp2
      clear hR hp2
      go_upto_region 9 with (fail)
      refine (wpIn_wide (n := n)).1 ?_
      gi_wp2
      refine HRR.out.mono ?_
      rintro e W3 (⟨rfl, hJ3, h3a, h3b⟩ | ⟨rfl, hx3⟩)
      ·have HJ3 := Aside0.mk hJ3
       have HL3 := Aside0.mk (h3a.trans HXV.out : Boxed W3 ba 26 _)
       have HM3 := Aside0.mk (h3b.trans HYV.out : Boxed W3 bb 26 _)
       clear hJ3 h3a h3b
       gi_wp2
       go_wp2
       go_roundg (a.length + b.length)
       case measure => have := HK.out; simp at this; omega
       case rel => exact ⟨pre ++ [x], a, b, A2, ca - 1, B2, cb - 1, by have := HP2.out; simpa using this, by simp, HL3.out, HM3.out, HCl.out.1, HCl.out.2, HCm.out.1, HCm.out.2, HJ3.out⟩
      ·have HX3 := Aside0.mk hx3
       clear hx3
       gi_wp2
       go_wp2
       refine bodyPost_ret (results_none rfl _ _ _) rfl ?_
       exact ⟨⟨_, rfl⟩, .inr HX3.out⟩
     ·have d1 : decide (0 ≤ cmpO x y) = true := decide_eq_true (by omega)
      have d2 : decide (cmpO x y ≤ 0) = false := decide_eq_false (by omega)
      have HLT := Aside0.mk hlt
      have HEQ := Aside0.mk heq
      clear hlt heq
      go_upto_region 6 with (fail)
      obtain ⟨W1, hW1⟩ : ∃ W1, w5.alloc (.cells #[.int .i64 0, .int .i64 0, .int .i64 0, .int .i64 0, .int .i64 0, .int .i64 0] 40) = W1 := ⟨_, rfl⟩
      rw [hW1]
      have hbw : Below w5.heap.size w5 W1 := by rw [← hW1]; exact below_alloc (Below.refl _ _) _
      have hnb : W1.heap[w5.heap.size]? = some (.cells #[.int .i64 0, .int .i64 0, .int .i64 0, .int .i64 0, .int .i64 0, .int .i64 0] 40) := by rw [← hW1]; exact World.alloc_heap_new _ _
      clear hW1 ca_ cb_ fa_ fb_
      have HNB := Aside0.mk hnb
      have HXV : Aside0 (Boxed W1 ba 26 (.slice (some ad) (a.length + 1) ca)) := ⟨(hbw.block _ HXQ.out.lt).trans HXQ.out⟩
      have HYV : Aside0 (Boxed W1 bb 26 (.slice (some bd) (b.length + 1) cb)) := ⟨(hbw.block _ HYQ.out.lt).trans HYQ.out⟩
      have HWV : Aside0 (Wrote ba bb wr W1) := ⟨Nat.le_trans HBQ.out.size hbw.size, fun k hk hn => (hbw.block k (Nat.lt_of_lt_of_le hk HBQ.out.size)).trans (HBQ.out.block k hk)⟩
      have HBV : Aside0 (Below base wr W1) := ⟨(HBQ.out.mono (by have := HXA.out.lt; omega)).trans (hbw.mono (by have := HXA.out.lt; have := HBQ.out.size; omega))⟩
      have HZA : Aside0 (ba ≠ w5.heap.size) := ⟨by have := HXQ.out.lt; omega⟩
      have HZB : Aside0 (bb ≠ w5.heap.size) := ⟨by have := HYQ.out.lt; omega⟩
      have HZG : Aside0 (base ≤ w5.heap.size ∧ wr.heap.size ≤ w5.heap.size) := ⟨by have := HXA.out.lt; have := HBQ.out.size; omega, HBQ.out.size⟩
      clear hnb hbw HXQ HYQ HBQ HW0
      obtain ⟨B2, hsl, hA2⟩ := cut1 (some bd) cb y b (by have := HCB.out; simpa using this)
      have hw0v : Below w0.heap.size w0 W1 := HJB.out _ _ (HJ.out _ _ _ HJr.out HWV.out HBV.out)
      obtain ⟨ad, eA, g0, g1, g2, g3, g4, g5⟩ := at_T40 (Kd.C_below HB.out hw0v) 0 (by omega) (by simp)
      cases eA
      simp only [Int.toNat_zero, Nat.zero_mul, add0] at g0 g1 g2 g3 g4 g5
      have ca_ := HYV.out.cell
      have fa_ := HYV.out.frozen
      have n0 := blk_cell HNB.out 0
      have n1 := blk_cell HNB.out 1
      have n2 := blk_cell HNB.out 2
      have n3 := blk_cell HNB.out 3
      have n4 := blk_cell HNB.out 4
      have n5 := blk_cell HNB.out 5
      simp only [List.getElem?_toArray, List.getElem?_cons_zero, List.getElem?_cons_succ] at n0 n1 n2 n3 n4 n5
      have m0 := blk_frozen HNB.out 0
      have m1 := blk_frozen HNB.out 1
      have m2 := blk_frozen HNB.out 2
      have m3 := blk_frozen HNB.out 3
      have m4 := blk_frozen HNB.out 4
      have m5 := blk_frozen HNB.out 5
      have hq : (rd_T40 (y :: b) 0) = y := rfl
      rw [hq] at g0 g1 g2 g3 g4 g5
      have HA2_ := Aside0.mk hA2
      have hzl := HZB.out
      clear hq hA2 hw0v
      go_region
      obtain ⟨W2, hW2⟩ : ∃ Wz, Fill W1 w5.heap.size bb y (.slice B2 b.length (cb - 1)) = Wz := ⟨_, rfl⟩
      have hW2' := hW2
      unfold Fill at hW2'
      rw [hW2']
      have HNB2 : Aside0 (W2.heap[w5.heap.size]? = some (.cells #[.int .i64 y.f0, .int .i64 y.f1, .int .i64 y.f2, .int .i64 y.f3, .int .i64 y.f4, .int .i64 y.f5] 40)) := ⟨by rw [← hW2]; exact fill_box HNB.out hzl _ _⟩
      have HS2 : Aside0 (Boxed W2 bb 26 (.slice B2 b.length (cb - 1))) := ⟨by rw [← hW2]; exact fill_list HYV.out hzl _ _⟩
      have HO2 : Aside0 (Boxed W2 ba 26 (.slice (some ad) (a.length + 1) ca)) := ⟨by rw [← hW2]; exact (fill_other HZA.out hne _ _).trans HXV.out⟩
      have HWV2 : Aside0 (Wrote ba bb wr W2) := ⟨by rw [← hW2]; exact ⟨by rw [fill_size]; exact HWV.out.1, fun k hk hn => (fill_other (by have := HZG.out.2; omega) (fun e => hn (.inr e)) _ _).trans (HWV.out.2 k hk hn)⟩⟩
      have HBV2 : Aside0 (Below base wr W2) := ⟨by rw [← hW2]; exact fill_below HBV.out HZG.out.1 hbb _ _⟩
      have HCm : Aside0 (Kd.C k40 w0 B2 b.length b ∧ b.length ≤ cb - 1) := ⟨HA2_.out _ HB.out, by have := HCB.out; simp at this; omega⟩
      clear hW2 hW2' hzl ca_ fa_ n0 n1 n2 n3 n4 n5 m0 m1 m2 m3 m4 m5 g0 g1 g2 g3 g4 g5 hsl HNB HXV HYV HWV HBV HA2_
      have HNB := HNB2
      have HYV := HS2
      have HXV := HO2
      have HWV := HWV2
      have HBV := HBV2
      clear HNB2 HS2 HO2 HWV2 HBV2
      have hp2 : pre ++ y :: merged (x :: a) b = merged as0 bs0 := by have := HP.out; rwa [merged_cons, if_neg HLT.out, if_neg HEQ.out] at this
      obtain ⟨fn, tmps, assign, body, hy, hR⟩ := HY.out pre y _ W2 (HJ.out _ _ _ HJr.out HWV.out HBV.out) hp2
      simp only [s40v] at hy
      have o0 := blk_cell HNB.out 0
      have o1 := blk_cell HNB.out 1
      have o2 := blk_cell HNB.out 2
      have o3 := blk_cell HNB.out 3
      have o4 := blk_cell HNB.out 4
      have o5 := blk_cell HNB.out 5
      simp only [List.getElem?_toArray, List.getElem?_cons_zero, List.getElem?_cons_succ] at o0 o1 o2 o3 o4 o5
      have HRR := Aside0.mk hR
      have HP2 := Aside0.mk hp2
      clear hR hp2
      go_upto_region 9 with (fail)
      refine (wpIn_wide (n := n)).1 ?_
      gi_wp2
      refine HRR.out.mono ?_
      rintro e W3 (⟨rfl, hJ3, h3a, h3b⟩ | ⟨rfl, hx3⟩)
      ·have HJ3 := Aside0.mk hJ3
       have HL3 := Aside0.mk (h3a.trans HXV.out : Boxed W3 ba 26 _)
       have HM3 := Aside0.mk (h3b.trans HYV.out : Boxed W3 bb 26 _)
       clear hJ3 h3a h3b
       gi_wp2
       go_wp2
       go_roundg (a.length + 1 + b.length)
       case measure => have := HK.out; simp at this; omega
       case rel => exact ⟨pre ++ [y], x :: a, b, some ad, ca, B2, cb - 1, by have := HP2.out; simpa using this, by simp, HL3.out, HM3.out, HA.out, HCA.out, HCm.out.1, HCm.out.2, HJ3.out⟩
      ·have HX3 := Aside0.mk hx3
       clear hx3
       gi_wp2
       go_wp2
       refine bodyPost_ret (results_none rfl _ _ _) rfl ?_
       exact ⟨⟨_, rfl⟩, .inr HX3.out⟩
end Go.Proofs.Ytkclehmjkncmnaa.P
/- devices.Merge: the walk. -/
namespace Go.Proofs.Ytkclehmjkncmnaa.P
open Go.RowKit Go.Shelf Go.Proofs.YtkclehmjkncmnaaR Go.Proofs.YtkclehmjkncmnaaA Go.Proofs.YtkclehmjkncmnaaW.PrintWords Go.Proofs.YtkclehmjkncmnaaW.PrintLast Go.Proofs.YtkclehmjkncmnaaW.PrintMore
set_option linter.unusedVariables false
attribute [local go_sem] Oper.semAt_some

theorem enters85 : ∀ args w, (callFunc 85 args).run Try.prog w = .ok (.enter 85 args) w := enters_ Try.func85 (by kernel_rfl) rfl
theorem both_calls (v u : Value) (w : World) (A B : Option Addr) (n m ca cb : Nat) (hv : v = .slice A n ca) (hu : u = .slice B m cb) : Calls Try.prog 67 #[v, u] w fun e w' => e = .returned (.func (.func 85) #[] #[.pointer (some ⟨w.heap.size, 0, none⟩), .pointer (some ⟨w.heap.size + 1, 0, none⟩)]) ∧ w' = (w.alloc (.cells #[v] 26)).alloc (.cells #[u] 26) := by
 subst hv hu
 go_enter Try.func67, Try.ntmps67
 go_wp2
 go_ret
 exact ⟨rfl, rfl⟩
theorem results31 {tmps : Array Value} {W : World} {p4 p5 : Addr} {A : Option Addr} {n c : Nat} {e : Int} (t4 : tmps.getD 4 undef = .pointer (some p4)) (t5 : tmps.getD 5 undef = .pointer (some p5)) (h4 : W.cell? p4 = some (.slice A n c)) (h5 : W.cell? p5 = some (.int .i64 e)) :
  (results Try.f31 tmps).run Try.prog W = .ok (.tuple #[.slice A n c, .int .i64 e]) W := by
 have hr : Try.f31.results = #[.cell 4 26, .cell 5 32] := by kernel_rfl
 have hu26 := Try.underlying26
 have hu32 := Try.underlying32
 unfold results
 rw [hr]
 simp only [List.mapM_toArray, List.mapM_cons, List.mapM_nil]
 simp [go_sem, t4, t5, h4, h5, loadVar, asAddr]
theorem apart_nodup (l : List S40) : apart l = true ↔ (l.map keyOf).Nodup := by
 induction l with
 | nil => simp [apart]
 | cons o l ih => rw [apart, any_key, Bool.and_eq_true, ih, List.map_cons, List.nodup_cons]; simp
theorem loop_below {W W' : World} {D : Nat} {r : Loop} (h : LoopAt W D r) (hb : Below W.heap.size W W') : LoopAt W' D r :=
 ⟨(hb.block _ h.lt).trans h.rec_, (hb.block _ (by have := h.lt; omega)).trans h.dfr⟩
theorem loop_setCell {W : World} {D : Nat} {r : Loop} (h : LoopAt W D r) (a : Addr) (v : Value) (hne : a.block < D) : LoopAt (W.setCell a v) D r :=
 ⟨(Below.heap_setCell W a v (D + 1) (by omega)).trans h.rec_, (Below.heap_setCell W a v D (by omega)).trans h.dfr⟩
theorem r_cells {α : Type} {d : Kd α} {e base : Nat} {ok : Nat → Prop} {W W' : World} {v : Value} {xs : List α} (h : d.R e W base ok v xs) (hk : ∀ (k : Nat) (cs : Array Value) (t : TypeId), W.heap[k]? = some (Obj.cells cs t (0, 0)) → W'.heap[k]? = W.heap[k]?) : d.R e W' base ok v xs := by
 refine Kd.R_mono (Kd.R_move (Kd.R_bound h) (fun k hb => ?_)) (fun _ h => h.1)
 obtain ⟨_, _, _, q, _, cells, e⟩ := hb
 exact hk k cells q e
theorem r_put {α : Type} {d : Kd α} {e base : Nat} {ok : Nat → Prop} {W : World} {v : Value} {xs : List α} (h : d.R e W base ok v xs) {b : Nat} {o : Obj} (hb : W.heap[b]? = some o) (ho : o.isCells = false) (o' : Obj) : d.R e (W.putObj b o') base ok v xs :=
 r_cells h fun k cs t hk => World.putObj_heap_other (by
  rintro rfl
  rw [hb] at hk
  cases hk
  cases ho)
/-- The results' boxes, the map, what is collected. -/
structure Mg (w : World) (N mv mb ba bb : Nat) (pre : List S40) (W : World) : Prop where
 bx : ∃ v, Boxed W N 26 v ∧ Kd.R k40 40 W w.heap.size (fun k => k ≠ ba ∧ k ≠ bb) v pre
 be : Boxed W (N + 1) 32 (.int .i64 0)
 bm : Boxed W mv 97 (.map (some mb))
 keys : MapK W mb (pre.map keyOf)
 bl : Below w.heap.size w W
theorem Mg.kept {w W W' : World} {N mv mb ba bb : Nat} {pre : List S40} (h : Mg w N mv mb ba bb pre W) (hk : ∀ k, k < W.heap.size → k ≠ ba → k ≠ bb → W'.heap[k]? = W.heap[k]?) (hN : N + 1 < ba) (hm : mv < ba) (hb : mb < ba) (hab : ba < bb) (hB : Below w.heap.size w W') (hs : W.heap.size ≤ W'.heap.size) : Mg w N mv mb ba bb pre W' := by
 obtain ⟨⟨v, h1, h2⟩, h3, h4, ⟨es, clock, h5, h6⟩, h7⟩ := h
 have hbl : mb < W.heap.size := (Array.getElem?_eq_some_iff.1 h5).1
 exact ⟨⟨v, (hk _ h1.lt (by omega) (by omega)).trans h1, Kd.R_step h2 (fun k ho hl => hk k hl ho.1 ho.2)⟩, (hk _ h3.lt (by omega) (by omega)).trans h3, (hk _ h4.lt (by omega) (by omega)).trans h4, ⟨es, clock, (hk _ hbl (by omega) (by omega)).trans h5, h6⟩, hB⟩
theorem Mg.below {w W W' : World} {N mv mb ba bb : Nat} {pre : List S40} (h : Mg w N mv mb ba bb pre W) (hb : Below W.heap.size W W') : Mg w N mv mb ba bb pre W' := by
 obtain ⟨⟨v, h1, h2⟩, h3, h4, h5, h7⟩ := h
 exact ⟨⟨v, (hb.block _ h1.lt).trans h1, Kd.R_below h2 hb⟩, (hb.block _ h3.lt).trans h3, (hb.block _ h4.lt).trans h4, h5.below hb, h7.trans (hb.mono h7.size)⟩
theorem Mg.put {w W : World} {N mv mb ba bb b : Nat} {pre : List S40} (h : Mg w N mv mb ba bb pre W) {o : Obj} (hb : W.heap[b]? = some o) (ho : o.isCells = false) (h1 : N + 1 < b) (h2 : mv ≠ b) (h3 : mb ≠ b) (hw : w.heap.size ≤ b) (o' : Obj) : Mg w N mv mb ba bb pre (W.putObj b o') := by
 obtain ⟨⟨v, g1, g2⟩, g3, g4, ⟨es, clock, g5, g6⟩, g7⟩ := h
 exact ⟨⟨v, (World.putObj_heap_other (by omega)).trans g1, r_put g2 hb ho o'⟩, (World.putObj_heap_other (by omega)).trans g3, (World.putObj_heap_other h2).trans g4, ⟨es, clock, (World.putObj_heap_other h3).trans g5, g6⟩, below_put g7 hw o'⟩
/-- How the range is left early. -/
def Sm (w : World) (N : Nat) (l0 l1 : List S40) (c : Code) (W : World) : Prop :=
 c = .ret ∧ Boxed W N 26 (.slice none 0 0) ∧ Boxed W (N + 1) 32 (.int .i64 420) ∧ Below w.heap.size w W ∧ ∃ pre o rest, pre ++ o :: rest = merged l0 l1 ∧ keyOf o ∈ pre.map keyOf
theorem two_set {W : World} {N : Nat} {v : Value} {e : Int} (h1 : Boxed W N 26 v) (h2 : Boxed W (N + 1) 32 (.int .i64 e)) (u : Value) (e' : Int) :
  Boxed ((W.setCell ⟨N, 0, none⟩ u).setCell ⟨N + 1, 0, none⟩ (.int .i64 e')) N 26 u ∧ Boxed ((W.setCell ⟨N, 0, none⟩ u).setCell ⟨N + 1, 0, none⟩ (.int .i64 e')) (N + 1) 32 (.int .i64 e') :=
 ⟨(Below.heap_setCell _ _ _ N (by simp)).trans (h1.set u), Boxed.set _ ((Below.heap_setCell _ _ _ (N + 1) (by simp)).trans h2)⟩
theorem two_below {w W : World} {B N : Nat} (h : Below B w W) (hN : B ≤ N) (u v : Value) : Below B w ((W.setCell ⟨N, 0, none⟩ u).setCell ⟨N + 1, 0, none⟩ v) :=
 (h.setCell (p := ⟨N, 0, none⟩) hN _).setCell (p := ⟨N + 1, 0, none⟩) (by show B ≤ N + 1; omega) _
theorem two_R {W : World} {N base : Nat} {v u : Value} {e : Int} {ok : Nat → Prop} {xs : List S40} (h : Kd.R k40 40 W base ok v xs) (h1 : Boxed W N 26 u) (h2 : Boxed W (N + 1) 32 (.int .i64 e)) (u' : Value) (e' : Int) : Kd.R k40 40 ((W.setCell ⟨N, 0, none⟩ u').setCell ⟨N + 1, 0, none⟩ (.int .i64 e')) base ok v xs :=
 Kd.R_set (Kd.R_set h h1 (by simp [show k40.E = [] from rfl]) 0 u') (show (W.setCell ⟨N, 0, none⟩ u').heap[N + 1]? = some (.cells #[.int .i64 e] 32 (0, 0)) from (Below.heap_setCell _ _ _ (N + 1) (by simp)).trans h2) (by simp [show k40.E = [] from rfl]) 0 (.int .i64 e')
theorem merge_f {a b : List S40} {r1 : List S40} {r2 : Int} (h : mergeV a b = (r1, r2)) {x : List S40 × Int} (e : mergeV a b = x) : r1 = x.1 ∧ r2 = x.2 := by
 rw [h] at e
 exact ⟨congrArg Prod.fst e, congrArg Prod.snd e⟩
set_option maxHeartbeats 4000000 in
set_option maxRecDepth 100000 in
theorem devices_Merge.calls (A0 : Option Addr) (c0 : Nat) (l0 : List S40) (A1 : Option Addr) (c1 : Nat) (l1 : List S40) (r1 : List S40) (r2 : Int) (w : World) (hr0 : Kd.C k40 w A0 l0.length l0) (hc0 : l0.length ≤ c0) (hr1 : Kd.C k40 w A1 l1.length l1) (hc1 : l1.length ≤ c1) (h : devices_Merge.f l0 l1 = some (r1, r2)) :
  Calls Try.prog 31 #[.slice A0 l0.length c0, .slice A1 l1.length c1] w fun e w' => ∃ v0_ : Value, e = .returned (.tuple #[v0_, .int .i64 r2]) ∧ Kd.R k40 40 w' w.heap.size (fun _ => True) v0_ r1 ∧ Below w.heap.size w w' := by
 have HV := Aside0.mk (Option.some.inj h)
 have hu26 := Try.underlying26
 have hu40 := Try.underlying40
 have hu97 := Try.underlying97
 have hu99 := Try.underlying99
 have HR0 := Aside0.mk hr0
 have HC0 := Aside0.mk hc0
 have HR1 := Aside0.mk hr1
 have HC1 := Aside0.mk hc1
 clear hr0 hc0 hr1 hc1 h
 refine (callsIn_wide (n := 3)).1 (callsIn_of_wp_marks Try.func31 rfl trivial ?_ rfl)
 simp only [Try.ntmps31, List.size_toArray, List.length_cons, List.length_nil, Nat.reduceAdd, Nat.reduceSub, Array.replicate_succ, Array.replicate_zero, List.push_toArray, List.append_toArray, List.nil_append, List.cons_append]
 refine wpIn_wide.2 ?_
 cases hchk : chkD l0 with
 | false =>
  have HQ := Aside0.mk hchk
  go_wp2_with (go_at_call 29; (refine (devices_Check.calls _ _ l0 420 _ ?s1 HC0.out ?s2).mono ?_); (case s1 => exact Kd.C_below HR0.out (below_alloc (below_alloc (Below.refl _ _) _) _)); (case s2 => rw [devices_Check.f, HQ.out]; rfl); rintro e w1 ⟨rfl, hb1⟩; refine Aside0.out (p := _) ?_)
  refine ⟨?_⟩
  have hbx : Boxed w1 w.heap.size 26 (.slice none 0 0) := (hb1.block _ (by simp; omega)).trans ((Boxed.new w 26 (.slice none 0 0)).alloc _)
  have hby : Boxed w1 (w.heap.size + 1) 32 (.int .i64 0) := (hb1.block _ (by simp)).trans (by have := Boxed.new (w.alloc (.cells #[.slice none 0 0] 26)) 32 (.int .i64 0); rwa [World.size_alloc] at this)
  have g0 := hbx.cell
  have f0 := hbx.frozen
  have g1 := hby.cell
  have f1 := hby.frozen
  have HB1 : Aside0 (Below w.heap.size w w1) := ⟨below2 (below_alloc (below_alloc (Below.refl _ _) _) _) hb1⟩
  have HBX := Aside0.mk hbx
  have HBY := Aside0.mk hby
  clear hb1 hbx hby
  go_wp2
  obtain ⟨rfl, rfl⟩ := merge_f HV.out (show mergeV l0 l1 = ([], 420) by rw [mergeV, HQ.out]; rfl)
  have hz := two_set HBX.out HBY.out (.slice none 0 0) 420
  exact ⟨_, results31 (p4 := ⟨w.heap.size, 0, none⟩) (p5 := ⟨w.heap.size + 1, 0, none⟩) rfl rfl hz.1.cell hz.2.cell, _, rfl, Kd.R_nil _ _ _ _ _, two_below HB1.out (Nat.le_refl _) _ _⟩
 | true =>
  have HQ := Aside0.mk hchk
  go_wp2_with (go_at_call 29; (refine (devices_Check.calls _ _ l0 0 _ ?s1 HC0.out ?s2).mono ?_); (case s1 => exact Kd.C_below HR0.out (below_alloc (below_alloc (Below.refl _ _) _) _)); (case s2 => rw [devices_Check.f, HQ.out]; rfl); rintro e w1 ⟨rfl, hb1⟩; refine Aside0.out (p := _) ?_)
  refine ⟨?_⟩
  have hbx : Boxed w1 w.heap.size 26 (.slice none 0 0) := (hb1.block _ (by simp; omega)).trans ((Boxed.new w 26 (.slice none 0 0)).alloc _)
  have hby : Boxed w1 (w.heap.size + 1) 32 (.int .i64 0) := (hb1.block _ (by simp)).trans (by have := Boxed.new (w.alloc (.cells #[.slice none 0 0] 26)) 32 (.int .i64 0); rwa [World.size_alloc] at this)
  have HB1 : Aside0 (Below w.heap.size w w1) := ⟨below2 (below_alloc (below_alloc (Below.refl _ _) _) _) hb1⟩
  have HBX := Aside0.mk hbx
  have HBY := Aside0.mk hby
  clear hb1 hbx hby
  cases hchk2 : chkD l1 with
  | false =>
   have HQ2 := Aside0.mk hchk2
   go_wp2_with (go_at_call 29; (refine (devices_Check.calls _ _ l1 420 _ ?s1 HC1.out ?s2).mono ?_); (case s1 => exact Kd.C_below HR1.out HB1.out); (case s2 => rw [devices_Check.f, HQ2.out]; rfl); rintro e w2 ⟨rfl, hb2⟩; refine Aside0.out (p := _) ?_)
   refine ⟨?_⟩
   have hbx : Boxed w2 w.heap.size 26 (.slice none 0 0) := (hb2.block _ HBX.out.lt).trans HBX.out
   have hby : Boxed w2 (w.heap.size + 1) 32 (.int .i64 0) := (hb2.block _ HBY.out.lt).trans HBY.out
   have g0 := hbx.cell
   have f0 := hbx.frozen
   have g1 := hby.cell
   have f1 := hby.frozen
   have HB2 := Aside0.mk (below2 HB1.out hb2)
   have HX2 := Aside0.mk hbx
   have HY2 := Aside0.mk hby
   clear hb2 hbx hby
   go_wp2
   obtain ⟨rfl, rfl⟩ := merge_f HV.out (show mergeV l0 l1 = ([], 420) by rw [mergeV, HQ.out, HQ2.out]; rfl)
   have hz := two_set HX2.out HY2.out (.slice none 0 0) 420
   exact ⟨_, results31 (p4 := ⟨w.heap.size, 0, none⟩) (p5 := ⟨w.heap.size + 1, 0, none⟩) rfl rfl hz.1.cell hz.2.cell, _, rfl, Kd.R_nil _ _ _ _ _, two_below HB2.out (Nat.le_refl _) _ _⟩
  | true =>
   have HQ2 := Aside0.mk hchk2
   go_wp2_with (go_at_call 29; (refine (devices_Check.calls _ _ l1 0 _ ?s1 HC1.out ?s2).mono ?_); (case s1 => exact Kd.C_below HR1.out HB1.out); (case s2 => rw [devices_Check.f, HQ2.out]; rfl); rintro e w2 ⟨rfl, hb2⟩; refine Aside0.out (p := _) ?_)
   refine ⟨?_⟩
   have hbx : Boxed w2 w.heap.size 26 (.slice none 0 0) := (hb2.block _ HBX.out.lt).trans HBX.out
   have hby : Boxed w2 (w.heap.size + 1) 32 (.int .i64 0) := (hb2.block _ HBY.out.lt).trans HBY.out
   have HB2 := Aside0.mk (below2 HB1.out hb2)
   have HX2 := Aside0.mk hbx
   have HY2 := Aside0.mk hby
   clear hb2 hbx hby HBX HBY HB1
   have hmk : (Instr.makeMap 97 none).run Try.prog w2 = .ok (.map (some w2.heap.size)) (w2.alloc (.map #[] 0)) := by kernel_rfl
   go_wp2_with (go_at_call 67; (refine (both_calls _ _ _ A0 A1 l0.length l1.length c0 c1 rfl rfl).mono ?_); rintro e w4 ⟨rfl, hw4⟩; refine Aside0.out (p := _) ?_)
   refine ⟨?_⟩
   go_wp2
   clear hmk
   obtain ⟨W3, hW3⟩ : ∃ W3, (w2.alloc (Obj.map #[] 0)).alloc (Obj.cells #[Value.map (some w2.heap.size)] 97) = W3 := ⟨_, rfl⟩
   have hw5 := hw4
   rw [hW3] at hw4
   have hz3 : W3.heap.size = w2.heap.size + 2 := by rw [← hW3]; simp
   have hb3 : Below w2.heap.size w2 W3 := by rw [← hW3]; exact below_alloc (below_alloc (Below.refl _ _) _) _
   have hm3 : Boxed W3 (w2.heap.size + 1) 97 (.map (some w2.heap.size)) := by
    have := Boxed.new (w2.alloc (.map #[] 0)) 97 (.map (some w2.heap.size))
    rwa [World.size_alloc, hW3] at this
   have hk3 : MapK W3 w2.heap.size [] := by
    have := (MapK.new w2).below (below_alloc (Below.refl _ _) (.cells #[.map (some w2.heap.size)] 97))
    rwa [hW3] at this
   have hz4 : w4.heap.size = w2.heap.size + 4 := by rw [hw4]; simp [hz3]
   have hb4 : Below W3.heap.size W3 w4 := by rw [hw4]; exact below_alloc (below_alloc (Below.refl _ _) _) _
   have hxa : Boxed w4 (w2.heap.size + 2) 26 (.slice A0 l0.length c0) := by rw [hw4, ← hz3]; exact (Boxed.new W3 26 _).alloc _
   have hxb : Boxed w4 (w2.heap.size + 3) 26 (.slice A1 l1.length c1) := by
    rw [hw4]
    have := Boxed.new (W3.alloc (.cells #[.slice A0 l0.length c0] 26)) 26 (.slice A1 l1.length c1)
    rwa [World.size_alloc, hz3] at this
   have hN := HB2.out.size
   have hNx := HY2.out.lt
   have hMg : Mg w w.heap.size (w2.heap.size + 1) w2.heap.size (w2.heap.size + 2) (w2.heap.size + 3) [] w4 := by
    have h3 : Mg w w.heap.size (w2.heap.size + 1) w2.heap.size (w2.heap.size + 2) (w2.heap.size + 3) [] W3 :=
     ⟨⟨_, (hb3.block _ HX2.out.lt).trans HX2.out, Kd.R_nil _ _ _ _ _⟩, (hb3.block _ HY2.out.lt).trans HY2.out, hm3, hk3, HB2.out.trans (hb3.mono hN)⟩
    exact h3.below hb4
   have HMG := Aside0.mk hMg
   have HXA := Aside0.mk hxa
   have HXB := Aside0.mk hxb
   have HZ4 := Aside0.mk hz4
   have HN := Aside0.mk hNx
   rw [← hw5]
   clear hMg hxa hxb hw5 hb4 hz4 hk3 hm3 hb3 hw4 hW3 hN hNx HX2 HY2
   clear hz3 W3
   refine (wpIn_wide (n := 3)).1 ?_
   refine range_enter (gf := 85) (lb := #[.pointer (some ⟨w2.heap.size + 2, 0, none⟩), .pointer (some ⟨w2.heap.size + 3, 0, none⟩)]) rfl enters85 (fun W => Mg w w.heap.size (w2.heap.size + 1) w2.heap.size (w2.heap.size + 2) (w2.heap.size + 3) (merged l0 l1) W ∧ ((merged l0 l1).map keyOf).Nodup) (Sm w w.heap.size l0 l1) ?call ?done ?stop
   case done =>
    rintro W2 r r' hl2 ⟨hmg, hnd⟩ hl3
    obtain ⟨W3, hW3⟩ : ∃ W3, W2.putObj (w4.heap.size + 1) (.loop r') = W3 := ⟨_, rfl⟩
    have hpb : Below w4.heap.size W2 W3 := by rw [← hW3]; exact put_below r' hl2 (Nat.le_refl _)
    obtain ⟨⟨v, hv, hR⟩, hbe, hbm, hmk, hbl⟩ := hmg
    obtain ⟨A2, c2, rfl⟩ := Kd.R_slice hR
    have hZ4 := HZ4.out
    have hNN := HN.out
    have hv3 : Boxed W3 w.heap.size 26 (.slice A2 (merged l0 l1).length c2) := (hpb.block _ (by omega)).trans hv
    have he3 : Boxed W3 (w.heap.size + 1) 32 (.int .i64 0) := (hpb.block _ (by omega)).trans hbe
    have hR3 : Kd.R k40 40 W3 w.heap.size (fun _ => True) (.slice A2 (merged l0 l1).length c2) (merged l0 l1) := by
     rw [← hW3]
     exact Kd.R_mono (r_put hR hl2.rec_ rfl _) (fun _ _ => trivial)
    have hb3 : Below w.heap.size w W3 := hbl.trans (hpb.mono (by omega))
    rw [hW3] at hl3 ⊢
    have HL3 := Aside0.mk hl3
    have HV3 := Aside0.mk hv3
    have HE3 := Aside0.mk he3
    have HR3 := Aside0.mk hR3
    have HB3 := Aside0.mk hb3
    have HND := Aside0.mk hnd
    have g0 := hv3.cell
    have f0 := hv3.frozen
    have g1 := he3.cell
    have f1 := he3.frozen
    have hlen := hR3.2
    clear hW3 hpb hR hbe hbm hmk hbl hv hv3 he3 hR3 hb3 hl3 hl2 hnd hZ4 hNN hlen
    by_cases hle : (merged l0 l1).length ≤ 256
    ·have d1 : decide ((256 : Int) < ((merged l0 l1).length : Int)) = false := decide_eq_false (by omega)
     have HLE := Aside0.mk hle
     clear hle
     go_wp2
     have hZ4 := HZ4.out
     have hNN := HN.out
     have hz := two_set HV3.out HE3.out (.slice A2 (merged l0 l1).length c2) 0
     have hL : LoopAt ((W3.setCell ⟨w.heap.size, 0, none⟩ (.slice A2 (merged l0 l1).length c2)).setCell ⟨w.heap.size + 1, 0, none⟩ (.int .i64 0)) w4.heap.size r' := loop_setCell (loop_setCell HL3.out ⟨w.heap.size, 0, none⟩ _ (by show w.heap.size < _; omega)) ⟨w.heap.size + 1, 0, none⟩ _ (by show w.heap.size + 1 < _; omega)
     have hp := below_put_dfr (N := w.heap.size + 2) hL (.deferred none) (by omega)
     have hR4 := r_put (two_R HR3.out HV3.out HE3.out (.slice A2 (merged l0 l1).length c2) 0) hL.dfr rfl (.deferred none)
     obtain ⟨rfl, rfl⟩ := merge_f HV.out (show mergeV l0 l1 = (merged l0 l1, 0) by rw [mergeV, HQ.out, HQ2.out, (apart_nodup _).2 HND.out, if_pos rfl, if_pos rfl, if_pos rfl, if_pos HLE.out])
     refine ⟨by simp, .inl ⟨w4.heap.size, _, rfl, run_takeDeferred hL.dfr, ?_⟩⟩
     exact ⟨_, results31 (p4 := ⟨w.heap.size, 0, none⟩) (p5 := ⟨w.heap.size + 1, 0, none⟩) rfl rfl ((hp.cell (p := ⟨w.heap.size, 0, none⟩) (by show w.heap.size < _; omega)).trans hz.1.cell) ((hp.cell (p := ⟨w.heap.size + 1, 0, none⟩) (by show w.heap.size + 1 < _; omega)).trans hz.2.cell), _, rfl, hR4, (two_below HB3.out (Nat.le_refl _) _ _).trans (below_put_dfr hL _ (by omega))⟩
    ·have d1 : decide ((256 : Int) < ((merged l0 l1).length : Int)) = true := decide_eq_true (by omega)
     have HLE := Aside0.mk hle
     clear hle
     go_wp2
     have hZ4 := HZ4.out
     have hNN := HN.out
     have hz := two_set HV3.out HE3.out (.slice none 0 0) 2
     have hL : LoopAt ((W3.setCell ⟨w.heap.size, 0, none⟩ (.slice none 0 0)).setCell ⟨w.heap.size + 1, 0, none⟩ (.int .i64 2)) w4.heap.size r' := loop_setCell (loop_setCell HL3.out ⟨w.heap.size, 0, none⟩ _ (by show w.heap.size < _; omega)) ⟨w.heap.size + 1, 0, none⟩ _ (by show w.heap.size + 1 < _; omega)
     have hp := below_put_dfr (N := w.heap.size + 2) hL (.deferred none) (by omega)
     obtain ⟨rfl, rfl⟩ := merge_f HV.out (show mergeV l0 l1 = ([], 2) by rw [mergeV, HQ.out, HQ2.out, (apart_nodup _).2 HND.out, if_pos rfl, if_pos rfl, if_pos rfl, if_neg HLE.out])
     refine ⟨by simp, .inl ⟨w4.heap.size, _, rfl, run_takeDeferred hL.dfr, ?_⟩⟩
     exact ⟨_, results31 (p4 := ⟨w.heap.size, 0, none⟩) (p5 := ⟨w.heap.size + 1, 0, none⟩) rfl rfl ((hp.cell (p := ⟨w.heap.size, 0, none⟩) (by show w.heap.size < _; omega)).trans hz.1.cell) ((hp.cell (p := ⟨w.heap.size + 1, 0, none⟩) (by show w.heap.size + 1 < _; omega)).trans hz.2.cell), _, rfl, Kd.R_nil _ _ _ _ _, (two_below HB3.out (Nat.le_refl _) _ _).trans (below_put_dfr hL _ (by omega))⟩
   case stop =>
    rintro c W2 r r' hl2 ⟨rfl, hbx, hby, hbe, pre, o, rest, hpre, hin⟩ hl3
    refine wpIn_wide.2 ?_
    obtain ⟨W3, hW3⟩ : ∃ W3, W2.putObj (w4.heap.size + 1) (.loop r') = W3 := ⟨_, rfl⟩
    have hpb : Below w4.heap.size W2 W3 := by rw [← hW3]; exact put_below r' hl2 (Nat.le_refl _)
    have hZ4 := HZ4.out
    have hNN := HN.out
    have hv3 : Boxed W3 w.heap.size 26 (.slice none 0 0) := (hpb.block _ (by omega)).trans hbx
    have he3 : Boxed W3 (w.heap.size + 1) 32 (.int .i64 420) := (hpb.block _ (by omega)).trans hby
    have hb3 : Below w.heap.size w W3 := hbe.trans (hpb.mono (by omega))
    rw [hW3] at hl3 ⊢
    have HL3 := Aside0.mk hl3
    have HV3 := Aside0.mk hv3
    have HE3 := Aside0.mk he3
    have HB3 := Aside0.mk hb3
    have HPR := Aside0.mk hpre
    have HIN := Aside0.mk hin
    clear hW3 hpb hbx hby hbe hv3 he3 hb3 hl3 hl2 hpre hin hZ4 hNN
    go_wp2
    have hZ4 := HZ4.out
    have hNN := HN.out
    have hL := HL3.out
    have hp := below_put_dfr (N := w.heap.size + 2) hL (.deferred none) (by omega)
    have hna : apart (merged l0 l1) = false := by
     rw [← Bool.not_eq_true, apart_nodup, ← HPR.out, List.map_append, List.map_cons]
     intro hn
     exact (List.nodup_append.1 hn).2.2 _ HIN.out _ (by simp) rfl
    obtain ⟨rfl, rfl⟩ := merge_f HV.out (show mergeV l0 l1 = ([], 420) by rw [mergeV, HQ.out, HQ2.out, hna, if_pos rfl, if_pos rfl, if_neg (by simp)])
    refine ⟨by simp, .inl ⟨w4.heap.size, _, rfl, run_takeDeferred hL.dfr, ?_⟩⟩
    exact ⟨_, results31 (p4 := ⟨w.heap.size, 0, none⟩) (p5 := ⟨w.heap.size + 1, 0, none⟩) rfl rfl ((hp.cell (p := ⟨w.heap.size, 0, none⟩) (by show w.heap.size < _; omega)).trans HV3.out.cell) ((hp.cell (p := ⟨w.heap.size + 1, 0, none⟩) (by show w.heap.size + 1 < _; omega)).trans HE3.out.cell), _, rfl, Kd.R_nil _ _ _ _ _, HB3.out.trans (below_put_dfr hL _ (by omega))⟩
   case call =>
    intro fn rc hrc
    obtain ⟨W1, hW1⟩ : ∃ W1, (w4.alloc (.deferred (some []))).alloc (.loop (rc .ready none)) = W1 := ⟨_, rfl⟩
    rw [hW1]
    have hl1 : LoopAt W1 w4.heap.size (rc .ready none) := by rw [← hW1]; exact LoopAt.new w4 _
    have hb1 : Below w4.heap.size w4 W1 := by rw [← hW1]; exact ((Below.refl _ _).alloc (Nat.le_refl _) _).alloc (by simp) _
    have hZ4 := HZ4.out
    have hNN := HN.out
    refine (both1_in _ (by decide) (w4.heap.size + 1) (w2.heap.size + 2) (w2.heap.size + 3) l0 l1 w w.heap.size (by omega) (by omega) (by omega)
     (fun pre W => LoopAt W w4.heap.size (rc .ready none) ∧ Mg w w.heap.size (w2.heap.size + 1) w2.heap.size (w2.heap.size + 2) (w2.heap.size + 3) pre W ∧ (pre.map keyOf).Nodup)
     (fun W => ∃ c, LoopAt W w4.heap.size (rc .done (some c)) ∧ Sm w w.heap.size l0 l1 c W)
     (fun pre W h => h.2.1.bl) ?_ ?_ A0 A1 c0 c1 HR0.out HC0.out HR1.out HC1.out W1 ((hb1.block _ HXA.out.lt).trans HXA.out) ((hb1.block _ HXB.out.lt).trans HXB.out) ⟨hl1, HMG.out.below hb1, by simp⟩).mono ?_
    ·rintro pre W W' ⟨h1, h2, h3⟩ hw hB
     refine ⟨⟨(hw.2 _ h1.lt (by omega)).trans h1.rec_, (hw.2 _ (by have := h1.lt; omega) (by omega)).trans h1.dfr⟩, h2.kept (fun k hk n1 n2 => hw.2 k hk (by omega)) (by omega) (by omega) (by omega) (by omega) (h2.bl.trans hB) hw.1, h3⟩
    ·rintro pre o rest W ⟨hlW, hmg, hnd⟩ hpre
     refine YieldAt.mono (yield_round hrc hlW rfl (fun W' => Mg w w.heap.size (w2.heap.size + 1) w2.heap.size (w2.heap.size + 2) (w2.heap.size + 3) (pre ++ [o]) W' ∧ ((pre ++ [o]).map keyOf).Nodup ∧ W'.heap[w2.heap.size + 2]? = W.heap[w2.heap.size + 2]? ∧ W'.heap[w2.heap.size + 3]? = W.heap[w2.heap.size + 3]?) (Sm w w.heap.size l0 l1) ?_) ?_
     ·intro K hK
      have HK := Aside0.mk hK
      have HLW := Aside0.mk hlW
      have HMW := Aside0.mk hmg
      have HND := Aside0.mk hnd
      have HPR := Aside0.mk hpre
      clear hK hlW hmg hnd hpre hb1 hl1 hW1
      unfold s40v
      gi_wp2
      refine HK.out _ _ (loop_below HLW.out (below_alloc (Below.refl _ _) _)) (fun r' hr' => ?_)
      obtain ⟨WB, hWB⟩ : ∃ WB, (W.alloc (.cells #[.int .i64 o.f0, .int .i64 o.f1, .int .i64 o.f2, .int .i64 o.f3, .int .i64 o.f4, .int .i64 o.f5] 40)).putObj (w4.heap.size + 1) (.loop r') = WB := ⟨_, rfl⟩
      rw [hWB]
      have hZ4 := HZ4.out
      have hNN := HN.out
      have hlA := loop_below HLW.out (below_alloc (Below.refl _ _) (.cells #[.int .i64 o.f0, .int .i64 o.f1, .int .i64 o.f2, .int .i64 o.f3, .int .i64 o.f4, .int .i64 o.f5] 40))
      have hlB : LoopAt WB w4.heap.size (rc .busy none) := by rw [← hWB, hr']; exact hlA.put _
      have hmB : Mg w w.heap.size (w2.heap.size + 1) w2.heap.size (w2.heap.size + 2) (w2.heap.size + 3) pre WB := by
       rw [← hWB]
       exact (HMW.out.below (below_alloc (Below.refl _ _) _)).put hlA.rec_ rfl (by omega) (by omega) (by omega) (by omega) _
      have hoB : WB.heap[W.heap.size]? = some (.cells #[.int .i64 o.f0, .int .i64 o.f1, .int .i64 o.f2, .int .i64 o.f3, .int .i64 o.f4, .int .i64 o.f5] 40) := by
       rw [← hWB]
       exact (World.putObj_heap_other (by have := HLW.out.lt; omega)).trans (World.alloc_heap_new W _)
      have hsB : WB.heap.size = W.heap.size + 1 := by rw [← hWB]; simp
      have hkB : ∀ k, k < w4.heap.size → WB.heap[k]? = W.heap[k]? := fun k hk => by
       rw [← hWB]
       exact (World.putObj_heap_other (by omega)).trans ((below_alloc (Below.refl _ _) _ : Below W.heap.size W _).block k (by have := HLW.out.lt; omega))
      clear hWB hlA HK
      have o0 := blk_cell hoB 0
      have o1 := blk_cell hoB 1
      simp only [List.getElem?_toArray, List.getElem?_cons_zero, List.getElem?_cons_succ] at o0 o1
      have HLB := Aside0.mk hlB
      have HMB := Aside0.mk hmB
      have HSB := Aside0.mk hsB
      have HKB := Aside0.mk hkB
      have HOB := Aside0.mk hoB
      clear hlB hmB hsB hkB hoB hr' hZ4 hNN
      gi_upto_region 11 with (fail)
      obtain ⟨WK, hWK⟩ : ∃ WK, WB.alloc (.cells #[.int .i64 o.f0, .int .i64 o.f1] 99) = WK := ⟨_, rfl⟩
      rw [hWK]
      have hbB : Below WB.heap.size WB WK := by rw [← hWK]; exact below_alloc (Below.refl _ _) _
      have hkK : WK.heap[WB.heap.size]? = some (.cells #[.int .i64 o.f0, .int .i64 o.f1] 99) := by rw [← hWK]; exact World.alloc_heap_new _ _
      have hsK : WK.heap.size = WB.heap.size + 1 := by rw [← hWK]; simp
      have hmK := HMB.out.below hbB
      have hlK := loop_below HLB.out hbB
      have hoK := (hbB.block _ (Array.getElem?_eq_some_iff.1 HOB.out).1).trans HOB.out
      have hkk : ∀ k, k < w4.heap.size → WK.heap[k]? = W.heap[k]? := fun k hk => (hbB.block k (by have := HLB.out.lt; omega)).trans (HKB.out k hk)
      clear hWK o0 o1
      obtain ⟨v, hbx, hR⟩ := hmK.bx
      obtain ⟨A2, c2, rfl⟩ := Kd.R_slice hR
      have hby := hmK.be
      have hbm := hmK.bm
      have g0 := hbx.cell
      have f0 := hbx.frozen
      have g1 := hby.cell
      have f1 := hby.frozen
      have g2 := hbm.cell
      have k0 := blk_cell hkK 0
      have k1 := blk_cell hkK 1
      simp only [List.getElem?_toArray, List.getElem?_cons_zero, List.getElem?_cons_succ] at k0 k1
      have lk := look99 hmK.keys (keyOf o)
      have HLK := Aside0.mk hlK
      have HMK := Aside0.mk hmK
      have HKK := Aside0.mk hkk
      have HSK := Aside0.mk hsK
      have HBX := Aside0.mk hbx
      have HBY := Aside0.mk hby
      have HOK := Aside0.mk hoK
      have HRK := Aside0.mk hR
      clear hlK hmK hkk hsK hbx hby hoK hR hbm hbB hkK HLB HMB HSB HKB HOB
      by_cases hin : keyOf o ∈ pre.map keyOf
      ·have HIN := Aside0.mk hin
       rw [decide_eq_true hin] at lk
       simp only [keyV, keyOf] at lk
       clear hin
       gi_wp2
       have hZ4 := HZ4.out
       have hNN := HN.out
       have hz := two_set HBX.out HBY.out (.slice none 0 0) 420
       have hL := loop_setCell (loop_setCell HLK.out ⟨w.heap.size, 0, none⟩ (.slice none 0 0) (by show w.heap.size < _; omega)) ⟨w.heap.size + 1, 0, none⟩ (.int .i64 420) (by show w.heap.size + 1 < _; omega)
       refine ⟨hL, fun r' hr' => ?_⟩
       have hp := put_below (N := w.heap.size + 2) r' hL (by omega)
       refine ⟨rfl, (hp.block _ (by omega)).trans hz.1, (hp.block _ (by omega)).trans hz.2, ?_, pre, o, rest, HPR.out, HIN.out⟩
       exact (two_below HMK.out.bl (Nat.le_refl _) _ _).trans (put_below r' hL (by omega))
      ·have HIN := Aside0.mk hin
       rw [decide_eq_false hin] at lk
       obtain ⟨oo, hup, hM2⟩ := upd99 HMK.out.keys (keyOf o) hin
       simp only [keyV, keyOf] at lk hup
       have HM2 := Aside0.mk hM2
       clear hin hM2
       gi_upto_region 14 with (fail)
       clear lk hup g0 f0 g1 f1 g2 k0 k1
       have hZ4 := HZ4.out
       have hNN := HN.out
       obtain ⟨es, clock, hmo, _⟩ := HMK.out.keys
       obtain ⟨WM, hWM⟩ : ∃ WM, WK.putObj w2.heap.size oo = WM := ⟨_, rfl⟩
       have hRM := r_put HRK.out hmo rfl oo
       have hbx : Boxed (WK.putObj w2.heap.size oo) w.heap.size 26 (.slice A2 pre.length c2) := (World.putObj_heap_other (by omega)).trans HBX.out
       have hby : Boxed (WK.putObj w2.heap.size oo) (w.heap.size + 1) 32 (.int .i64 0) := (World.putObj_heap_other (by omega)).trans HBY.out
       have hbm : Boxed (WK.putObj w2.heap.size oo) (w2.heap.size + 1) 97 (.map (some w2.heap.size)) := (World.putObj_heap_other (by omega)).trans HMK.out.bm
       have hoM : (WK.putObj w2.heap.size oo).heap[W.heap.size]? = _ := (World.putObj_heap_other (by have := HLW.out.lt; omega)).trans HOK.out
       have hlM : LoopAt (WK.putObj w2.heap.size oo) w4.heap.size (rc .busy none) := ⟨(World.putObj_heap_other (by omega)).trans HLK.out.rec_, (World.putObj_heap_other (by omega)).trans HLK.out.dfr⟩
       have hbl : Below w.heap.size w (WK.putObj w2.heap.size oo) := below_put HMK.out.bl (by omega) oo
       have hkM : ∀ k, k < w4.heap.size → k ≠ w2.heap.size → (WK.putObj w2.heap.size oo).heap[k]? = W.heap[k]? := fun k hk hne => (World.putObj_heap_other hne).trans (HKK.out k hk)
       have hsz : w4.heap.size + 1 < (WK.putObj w2.heap.size oo).heap.size := hlM.lt
       have hkeys := HM2.out
       rw [hWM] at hRM hbx hby hbm hoM hlM hbl hkM hkeys hsz ⊢
       have g0 := hbx.cell
       have f0 := hbx.frozen
       have o0 := blk_cell hoM 0
       have o1 := blk_cell hoM 1
       have o2 := blk_cell hoM 2
       have o3 := blk_cell hoM 3
       have o4 := blk_cell hoM 4
       have o5 := blk_cell hoM 5
       simp only [List.getElem?_toArray, List.getElem?_cons_zero, List.getElem?_cons_succ] at o0 o1 o2 o3 o4 o5
       have HRM := Aside0.mk hRM
       have HBX := Aside0.mk hbx
       have HBY := Aside0.mk hby
       have HBM := Aside0.mk hbm
       have HLM := Aside0.mk hlM
       have HBL := Aside0.mk hbl
       have HKM := Aside0.mk hkM
       have HKS := Aside0.mk hkeys
       have HSZ := Aside0.mk hsz
       have hlen : pre.length + 1 ≤ l0.length + l1.length := by
        have h1 := congrArg List.length HPR.out
        have h2 := merged_len (l0.length + l1.length) l0 l1
        rw [show both (l0.length + l1.length) l0 l1 = merged l0 l1 from rfl] at h2
        simp at h1
        omega
       have h0 := (chkD_iff.1 HQ.out).len
       have h1 := (chkD_iff.1 HQ2.out).len
       have HLEN : Aside0 ((pre.length + 1) * 48 ≤ 140737488355328) := ⟨by omega⟩
       have hwl : Aside0 (w.heap.size ≤ WM.heap.size) := ⟨by omega⟩
       have hfr : Aside0 (∀ k, WM.heap.size ≤ k → k ≠ w2.heap.size + 2 ∧ k ≠ w2.heap.size + 3) := ⟨fun k hk => by omega⟩
       clear hWM hRM hbx hby hbm hoM hlM hbl hkM hkeys hsz hZ4 hNN hlen h0 h1 hmo HM2 HRK HMK HLK HKK HOK HSK oo
       gi_wp2_with (first | (gi_at_builtin; refine R_append_in k40 (w0 := w) (W := WM) w.heap.size rfl (.tmp 36) (.tmp 38) 26 40 (.agg #[.int .i64 0, .int .i64 0, .int .i64 0, .int .i64 0, .int .i64 0, .int .i64 0]) 48 rfl Try.underlying26 info40 (by decide) (by decide) (by decide) (.slice A2 pre.length c2) pre o [.int .i64 o.f0, .int .i64 o.f1, .int .i64 o.f2, .int .i64 o.f3, .int .i64 o.f4, .int .i64 o.f5] (fun k => k ≠ w2.heap.size + 2 ∧ k ≠ w2.heap.size + 3) (fun _ => False) rfl rfl (k40_mkM _ _ _ o) (fun _ h => h.elim) hfr.out HRM.out HBL.out hwl.out HLEN.out ?_; intro v1 w1 hR1 hB1 hg1 hat1; obtain ⟨A3, c3, rfl⟩ := Kd.R_slice hR1; have gx := (hg1.block w.heap.size HBX.out.lt (Kd.R_ne HRM.out HBX.out (by decide))).trans HBX.out; have gc := Boxed.cell gx; have gf := Boxed.frozen gx; have HR1 := Aside0.mk hR1; have HB1 := Aside0.mk hB1; have HG1 := Aside0.mk hg1; have HGX := Aside0.mk gx; clear hR1 hB1 hg1 hat1 gx))
       have hZ4 := HZ4.out
       have hNN := HN.out
       have hszM := HSZ.out
       have hown : ∀ k, some k = (Value.slice A2 pre.length c2).ownBlock → (k ≠ w2.heap.size + 2 ∧ k ≠ w2.heap.size + 3) ∧ ∃ q cells, WM.heap[k]? = some (.cells cells q (0, 0)) := fun k hk => by
        obtain ⟨ho, _, _, q, _, cells, e⟩ := (Kd.R_bound HRM.out).1 k hk.symm
        exact ⟨ho, q, cells, e⟩
       have nD : some w4.heap.size ≠ (Value.slice A2 pre.length c2).ownBlock := fun e => by
        obtain ⟨_, _, _, e2⟩ := hown _ e
        rw [HLM.out.dfr] at e2
        cases e2
       have nD1 : some (w4.heap.size + 1) ≠ (Value.slice A2 pre.length c2).ownBlock := fun e => by
        obtain ⟨_, _, _, e2⟩ := hown _ e
        rw [HLM.out.rec_] at e2
        cases e2
       obtain ⟨es2, clock2, hk1, hk2⟩ := HKS.out
       have nmb : some w2.heap.size ≠ (Value.slice A2 pre.length c2).ownBlock := fun e => by
        obtain ⟨_, _, _, e2⟩ := hown _ e
        rw [hk1] at e2
        cases e2
       have nN1 := Kd.R_ne HRM.out HBY.out (by decide)
       have nmv := Kd.R_ne HRM.out HBM.out (by decide)
       have hL1 : LoopAt w1 w4.heap.size (rc .busy none) := ⟨(HG1.out.block _ (by omega) nD1).trans HLM.out.rec_, (HG1.out.block _ (by omega) nD).trans HLM.out.dfr⟩
       have hL2 := loop_setCell hL1 ⟨w.heap.size, 0, none⟩ (.slice A3 (pre.length + 1) c3) (by show w.heap.size < _; omega)
       have hmg2 : Mg w w.heap.size (w2.heap.size + 1) w2.heap.size (w2.heap.size + 2) (w2.heap.size + 3) (pre ++ [o]) (w1.setCell ⟨w.heap.size, 0, none⟩ (.slice A3 (pre.length + 1) c3)) := by
        refine ⟨⟨_, Boxed.set _ HGX.out, ?_⟩, (Below.heap_setCell _ _ _ _ (by simp)).trans ((HG1.out.block _ (by omega) nN1).trans HBY.out), (Below.heap_setCell _ _ _ _ (by show w2.heap.size + 1 ≠ w.heap.size; omega)).trans ((HG1.out.block _ (by omega) nmv).trans HBM.out), ⟨es2, clock2, (Below.heap_setCell _ _ _ _ (by show w2.heap.size ≠ w.heap.size; omega)).trans ((HG1.out.block _ (by omega) nmb).trans hk1), by rw [hk2, List.map_append (f := keyOf)]; rfl⟩, HB1.out.setCell (p := ⟨w.heap.size, 0, none⟩) (Nat.le_refl _) _⟩
        have := Kd.R_set HR1.out HGX.out (by simp [show k40.E = [] from rfl]) 0 (.slice A3 (pre.length + 1) c3)
        simpa using this
       refine ⟨hL2, fun r' hr' => ⟨hmg2.put hL2.rec_ rfl (by omega) (by omega) (by omega) (by omega) _, ?_, ?_, ?_⟩⟩
       ·rw [List.map_append, List.map_cons, List.map_nil, List.nodup_append]
        refine ⟨HND.out, by simp, fun a ha b hb e => ?_⟩
        rw [List.mem_singleton] at hb
        rw [e, hb] at ha
        exact HIN.out ha
       ·rw [World.putObj_heap_other (by omega), Below.heap_setCell _ _ _ _ (by show w2.heap.size + 2 ≠ w.heap.size; omega), HG1.out.block _ (by omega) (fun e => (hown _ e).1.1 rfl)]
        exact HKM.out _ (by omega) (by omega)
       ·rw [World.putObj_heap_other (by omega), Below.heap_setCell _ _ _ _ (by show w2.heap.size + 3 ≠ w.heap.size; omega), HG1.out.block _ (by omega) (fun e => (hown _ e).1.2 rfl)]
        exact HKM.out _ (by omega) (by omega)
     ·rintro e W' (⟨rfl, h1, h2, h3, h4, h5⟩ | ⟨rfl, c, h1, h2⟩)
      ·exact .inl ⟨rfl, ⟨h1, h2, h3⟩, h4, h5⟩
      ·exact .inr ⟨rfl, c, h1, h2⟩
    ·rintro e W2 ⟨hv, ⟨h1, h2, h3⟩ | ⟨c, h1, h2⟩⟩
     ·exact ⟨hv, .inl ⟨h1, h2, h3⟩⟩
     ·exact ⟨hv, .inr ⟨c, h1, h2⟩⟩
end Go.Proofs.Ytkclehmjkncmnaa.P
/- The contracts of the functions of chapter 42 that are walked by hand, in one. -/
