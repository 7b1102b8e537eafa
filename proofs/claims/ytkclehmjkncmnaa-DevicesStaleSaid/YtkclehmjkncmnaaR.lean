/- A range over a function: the loop entered, and one round of it, over the wide fence: what the caller's body and the iterator owe each other is said in terms of the loop's record alone. -/
import Derived.RangeFuncFrom
import Derived.RangeFuncBound
import Derived.RangeFuncBox
import Derived.RangeFuncLeaves
import Derived.Shelf.Abstract
import Derived.OwnWalkIn
import Derived.TacticsInMore
import Derived.LoopNIn
import Derived.LoopIn
import Derived.WalkKit
namespace Go.Proofs.YtkclehmjkncmnaaR
open Go.RowKit Go.Shelf
section
variable {P : Program} {n : Nat}

def recOf (fn : FuncId) (tmps : Array Value) (ps : Array Tmp) (assign body : Code) (D : Nat) (st : LoopState) (pe : Option Code) : Loop :=
  { state := st, pending := pe, fn := fn, tmps := tmps, params := ps, assign := assign, body := body, defers := D }
/-- The loop's record, and the block for the rounds' deferred calls. -/
structure LoopAt (W : World) (D : Nat) (r : Loop) : Prop where
  rec_ : W.heap[D + 1]? = some (.loop r)
  dfr : W.heap[D]? = some (.deferred (some []))
theorem LoopAt.lt {W : World} {D : Nat} {r : Loop} (h : LoopAt W D r) : D + 1 < W.heap.size := (Array.getElem?_eq_some_iff.1 h.rec_).1
theorem LoopAt.put {W : World} {D : Nat} {r : Loop} (h : LoopAt W D r) (r' : Loop) : LoopAt (W.putObj (D + 1) (.loop r')) D r' :=
  ⟨World.putObj_heap_same h.lt, (World.putObj_heap_other (by omega)).trans h.dfr⟩
theorem LoopAt.keep {W W' : World} {D : Nat} {r : Loop} (h : LoopAt W D r) (hk : KeepsOthers W W') : LoopAt W' D r := ⟨hk.same _ _ h.rec_ rfl, hk.same _ _ h.dfr rfl⟩
theorem put_cells {W : World} {D : Nat} {r : Loop} (r' : Loop) {b : Nat} {o : Obj} (h : LoopAt W D r) (hb : W.heap[b]? = some o) (ho : o.isCells = true) : (W.putObj (D + 1) (.loop r')).heap[b]? = some o := by
  refine (World.putObj_heap_other ?_).trans hb
  intro e
  subst e
  rw [h.rec_] at hb
  cases hb
  cases ho
theorem put_grown (W : World) (D : Nat) (r' : Loop) : W.grownBy (W.putObj (D + 1) (.loop r')) (some (D + 1)) := grownBy_putObj' W _ _
theorem put_below {W : World} {N D : Nat} {r : Loop} (r' : Loop) (h : LoopAt W D r) (hN : N ≤ D) : Below N W (W.putObj (D + 1) (.loop r')) :=
  (Below.refl N W).grown (put_grown W D r') (by have := h.lt; omega) (fun k e => by cases e; omega)

theorem LoopAt.new (w : World) (r : Loop) : LoopAt ((w.alloc (.deferred (some []))).alloc (.loop r)) w.heap.size r :=
  ⟨by have := World.alloc_heap_new (w.alloc (.deferred (some []))) (.loop r); rwa [World.size_alloc] at this, (Below.heap_alloc _ _ _ (by simp)).trans (World.alloc_heap_new w _)⟩
theorem own_kept_none {w w' : World} {base : Nat} {e : TypeId} {size n : Nat} {v : Value} {xs : List Value} (h : w.ownsRow base e size v n xs) (hg : w.grownBy w' none) : w'.ownsRow base e size v n xs := h.kept hg (by cases v.ownBlock <;> simp)
/-- A slice's own row is not the loop's record. -/
theorem own_not_rec {w : World} {base D : Nat} {r : Loop} {e : TypeId} {size n : Nat} {v : Value} {xs : List Value} (h : w.ownsRow base e size v n xs) (hl : LoopAt w D r) : v.ownBlock = none ∨ v.ownBlock ≠ some (D + 1) := by
  rcases h.2 with ⟨rfl, _⟩ | ⟨g, cap, cur, rfl, _, hh, _⟩
  · exact .inl rfl
  · refine .inr fun e' => ?_
    obtain rfl : g = D + 1 := by simpa [Value.ownBlock] using e'
    rw [hl.rec_] at hh
    cases hh
theorem own_put_dfr {w : World} {base D : Nat} {r : Loop} {e : TypeId} {size n : Nat} {v : Value} {xs : List Value} (h : w.ownsRow base e size v n xs) (hl : LoopAt w D r) (o : Obj) : (w.putObj D o).ownsRow base e size v n xs := by
  refine h.kept (grownBy_putObj' w D o) ?_
  rcases h.2 with ⟨rfl, _⟩ | ⟨g, cap, cur, rfl, _, hh, _⟩
  · exact .inl rfl
  · refine .inr fun e' => ?_
    obtain rfl : g = D := by simpa [Value.ownBlock] using e'
    rw [hl.dfr] at hh
    cases hh
theorem below_put_dfr {w : World} {N D : Nat} {r : Loop} (hl : LoopAt w D r) (o : Obj) (hN : N ≤ D) : Below N w (w.putObj D o) :=
  (Below.refl N w).grown (grownBy_putObj' w D o) (by have := hl.lt; omega) (fun k e => by cases e; omega)
/-- The loop is entered: what the iterator's call comes to, and what follows. -/
theorem range_enter {g : Operand} {ps : Array Tmp} {assign body : Code} {Q : Exit → Act → World → Prop} {a : Act} {w : World} {gf : Nat} {lb : Array Value}
    (hg : a.eval g = .func (.func gf) #[] lb) (eg : ∀ args w, (callFunc gf args).run P w = .ok (.enter gf args) w) (Done : World → Prop) (Stop : Code → World → Prop)
    (hcall : ∀ fn rc, rc = recOf fn a.tmps ps assign body w.heap.size → CallsIn Fence.wide (n - 1) P gf (#[.func (.yield (w.heap.size + 1)) #[] #[]] ++ lb) ((w.alloc (.deferred (some []))).alloc (.loop (rc .ready none))) fun e W2 =>
      (∃ v, e = .returned v) ∧ ((LoopAt W2 w.heap.size (rc .ready none) ∧ Done W2) ∨ (∃ c, LoopAt W2 w.heap.size (rc .done (some c)) ∧ Stop c W2)))
    (hdone : ∀ W2 r r', LoopAt W2 w.heap.size r → Done W2 → LoopAt (W2.putObj (w.heap.size + 1) (.loop r')) w.heap.size r' → Q .normal { a with defers := { target := .collected w.heap.size, args := #[] } :: a.defers } (W2.putObj (w.heap.size + 1) (.loop r')))
    (hstop : ∀ c W2 r r', LoopAt W2 w.heap.size r → Stop c W2 → LoopAt (W2.putObj (w.heap.size + 1) (.loop r')) w.heap.size r' → c.wpIn Fence.wide n P Q { a with defers := { target := .collected w.heap.size, args := #[] } :: a.defers } (W2.putObj (w.heap.size + 1) (.loop r'))) :
    (Code.rangeFunc g ps assign body).wpIn Fence.wide n P Q a w := by
  refine wpIn_rangeFunc ?_
  intro fn hfn
  obtain ⟨W1, hW1⟩ : ∃ W1, (w.alloc (.deferred (some []))).alloc (.loop (recOf fn a.tmps ps assign body w.heap.size .ready none)) = W1 := ⟨_, rfl⟩
  have hc := hcall fn _ rfl
  rw [hW1] at hc
  refine ⟨w.heap.size + 1, [{ target := .collected w.heap.size, args := #[] }], W1, { target := .fn (.func gf) lb, args := #[.func (.yield (w.heap.size + 1)) #[] #[]] }, W1, gf, #[.func (.yield (w.heap.size + 1)) #[] #[]] ++ lb, W1,
    by rw [← hW1]; exact run_enterLoop_outer _ _ _ _ _, ?_, ?_, ?_, (fun h => by cases h), ?_⟩
  · simp only [resolve, hg]
    simp [go_sem]
  · intro f' _
    trivial
  · simp [invoke, go_sem, eg]
  · refine hc.mono ?_
    rintro e W2 ⟨⟨v, rfl⟩, (⟨hl, hD⟩ | ⟨c, hl, hS⟩)⟩
    · exact ⟨none, _, run_endLoop hl.rec_ (by simp [recOf]), hdone W2 _ _ hl hD (hl.put _)⟩
    · exact ⟨some c, _, run_endLoop hl.rec_ (by simp [recOf]), hstop c W2 _ _ hl hS (hl.put _)⟩

/-- How a round's body may be left. -/
def RoundEnd (D : Nat) (rc : LoopState → Option Code → Loop) (T : World → Prop) (X : Code → World → Prop) : Exit → Act → World → Prop
  | .normal, _, W3 => LoopAt W3 D (rc .busy none) ∧ ∀ r', r' = rc .ready none → T (W3.putObj (D + 1) (.loop r'))
  | .ret, _, W3 => LoopAt W3 D (rc .busy none) ∧ ∀ r', r' = rc .done (some .ret) → X .ret (W3.putObj (D + 1) (.loop r'))
  | .exit id, _, W3 => LoopAt W3 D (rc .busy none) ∧ ∀ r', r' = rc .done (some (.exit id)) → X (.exit id) (W3.putObj (D + 1) (.loop r'))
  | .goto t, _, W3 => LoopAt W3 D (rc .busy none) ∧ ∀ r', r' = rc .done (some (.goto t)) → X (.goto t) (W3.putObj (D + 1) (.loop r'))
  | .panic _, _, _ => False
  | .outgrown, _, _ => False
/-- One round. -/
theorem yield_round {fn : FuncId} {tmps : Array Value} {ps : Array Tmp} {assign body : Code} {D m : Nat} {args : Array Value} {W : World} {rc : LoopState → Option Code → Loop} (hrc : rc = recOf fn tmps ps assign body D) (hl : LoopAt W D (rc .ready none)) (hps : args.size = ps.size) (T : World → Prop) (X : Code → World → Prop)
    (h : ∀ K : Act → World → Prop, (∀ a1 W1, LoopAt W1 D (rc .ready none) →
        (∀ r', r' = rc .busy none → body.wpIn (Fence.wide.inRound (D + 1)) m P (RoundEnd D rc T X) a1 (W1.putObj (D + 1) (.loop r'))) → K a1 W1) →
      assign.wpIn (Fence.wide.inRound (D + 1)) m P (Exit.then K (fun _ _ _ => False)) { tmps := (ps.zip args).foldl (fun t (p, v) => t.setIfInBounds p v) tmps, defers := [] } W) :
    YieldAt Fence.wide m P (D + 1) args W fun e W' => (e = .returned (.bool true) ∧ LoopAt W' D (rc .ready none) ∧ T W') ∨
      (e = .returned (.bool false) ∧ ∃ c, LoopAt W' D (rc .done (some c)) ∧ X c W') := by
  subst hrc
  refine ⟨fn, _, assign, body, run_yield hl.rec_ hps, roundIn_of_wpIn trivial (h _ (fun a1 W1 hl1 hb => ⟨_, run_beginRound hl1.rec_ rfl, wpIn_mono (hb _ rfl) ?_⟩))⟩
  intro e2 a2 W3 hp
  cases e2 with
  | normal => exact ⟨_, _, run_endRound none hp.1.rec_, .inl ⟨rfl, hp.1.put _, hp.2 _ rfl⟩⟩
  | ret => exact ⟨_, _, run_endRound (some .ret) hp.1.rec_, .inr ⟨rfl, .ret, hp.1.put _, hp.2 _ rfl⟩⟩
  | exit id => exact ⟨_, _, run_endRound (some (.exit id)) hp.1.rec_, .inr ⟨rfl, .exit id, hp.1.put _, hp.2 _ rfl⟩⟩
  | goto t => exact ⟨_, _, run_endRound (some (.goto t)) hp.1.rec_, .inr ⟨rfl, .goto t, hp.1.put _, hp.2 _ rfl⟩⟩
  | panic ch => exact hp.elim
  | outgrown => exact hp.elim
end
end Go.Proofs.YtkclehmjkncmnaaR
