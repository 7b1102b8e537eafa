/- A region that draws its order, by what each operation leaves: an invariant over the set of operations that have come up. -/
import Derived.RegionTactic
import Derived.Orders
namespace Go.Proofs.Ytfbcjeknibfjcaa.P
open Go
def acyc (md : Region.Mode) (ops : Array Oper) : Bool := (List.range ops.size).all fun i => match ops[i]? with | some o => o.after.all fun e => !Region.binds md e || decide (e.on < i) | none => true
theorem acyc_spec {md : Region.Mode} {ops : Array Oper} (h : acyc md ops = true) {i : Nat} {o : Oper} (ho : ops[i]? = some o) : ∀ e ∈ o.after, Region.binds md e = true → e.on < i := by
  intro e he hb
  have hi : i < ops.size := (Array.getElem?_eq_some_iff.1 ho).1
  have := List.all_eq_true.1 h i (by simpa using hi)
  simp only [ho, Array.all_eq_true'] at this
  have := this e he
  simpa [hb] using this
theorem ready_nil {md : Region.Mode} {ops : Array Oper} {l : Array Bool} (hl : l.size = ops.size) (hac : acyc md ops = true) (h : Region.ready md ops l = []) : ∀ i, i < ops.size → l.getD i true = true := by
  intro i
  induction i using Nat.strongRecOn with
  | _ i ih =>
    intro hi
    cases hq : l.getD i true with
    | true => rfl
    | false =>
      have : i ∈ Region.ready md ops l := by
        refine mem_ready.2 ⟨hq, ops[i], by simp [hi], fun e he hb => ?_⟩
        have hlt := acyc_spec hac (i := i) (o := ops[i]) (by simp [hi]) e he hb
        have h1 := ih e.on hlt (by omega)
        have hs : e.on < l.size := by omega
        simp [hs] at h1 ⊢
        exact h1
      rw [h] at this
      cases this
theorem count_all : ∀ (l : List Bool), l.count true = l.length → ∀ i, l.getD i true = true
  | [], _, i => by simp
  | b :: l, h, i => by
    cases b with
    | false =>
      have := List.count_le_length (a := true) (l := l)
      simp at h
      omega
    | true =>
      simp at h
      cases i with
      | zero => simp
      | succ i => simpa using count_all l h i
def depB (md : Region.Mode) (ops : Array Oper) (i j : Nat) : Bool := match ops[i]? with | some o => o.after.any fun e => Region.binds md e && e.on == j | none => false
theorem wpAny_grow {P : Program} {md : Region.Mode} {ops : Array Oper} {Q : Exit → Act → World → Prop} (hac : acyc md ops = true) (I : (Nat → Bool) → Act → World → Prop)
    (hdone : ∀ L a w, (∀ i, i < ops.size → L i = true) → I L a w → Q .normal a w)
    (hstep : ∀ i L a w, i < ops.size → L i = false → (∀ j, depB md ops i j = true → L j = true) → I L a w →
      wpOp P ops Q i (fun a' w' => I (fun j => decide (j = i) || L j) a' w') a w) :
    ∀ (f : Nat) (l : Array Bool) (a : Act) (w : World), l.size = ops.size → f + l.toList.count true = ops.size → I (fun i => l.getD i true) a w → wpAny P md ops Q f l a w := by
  intro f
  induction f with
  | zero =>
    intro l a w hs hc hI
    have hall : ∀ i, l.getD i true = true := fun i => by
      have := count_all l.toList (by simp at hc ⊢; omega) i
      simpa using this
    refine ⟨?_, hdone _ _ _ (fun i _ => hall i) hI⟩
    cases hr : Region.ready md ops l with
    | nil => rfl
    | cons x xs =>
      have : x ∈ Region.ready md ops l := by rw [hr]; simp
      have := (mem_ready.1 this).1
      rw [hall x] at this
      cases this
  | succ f ih =>
    intro l a w hs hc hI
    refine ⟨fun hn => hdone _ _ _ (ready_nil hs hac hn) hI, fun i hi => ?_⟩
    obtain ⟨hun, o, ho, hall⟩ := mem_ready.1 hi
    have hilt : i < l.size := by rw [hs]; exact (Array.getElem?_eq_some_iff.1 ho).1
    have hli : l[i] = false := by simpa [hilt] using hun
    refine wpOp_mono ?_ (hstep i (fun i => l.getD i true) a w (by omega) hun (fun j hj => ?_) hI)
    · intro a' w' hI'
      refine ih _ a' w' (by simpa using hs) ?_ ?_
      · have hc2 : (l.setIfInBounds i true).toList.count true = l.toList.count true + 1 := by
          rw [Array.toList_setIfInBounds, List.count_set (by simpa using hilt)]
          simp [hli]
        omega
      · have : (fun j => (l.setIfInBounds i true).getD j true) = fun j => decide (j = i) || l.getD j true := by
          funext j
          by_cases hj : j = i
          · subst hj
            simp [hilt]
          · rw [getD_set_ne true (fun h => hj h.symm)]
            simp [hj]
        rw [this]
        exact hI'
    · simp only [depB, ho, Array.any_eq_true', Bool.and_eq_true, beq_iff_eq] at hj
      obtain ⟨e, he, hb, rfl⟩ := hj
      have h1 := hall e he hb
      have hlt := acyc_spec hac ho e he hb
      have : e.on < l.size := by omega
      simp [this] at h1 ⊢
      exact h1
end Go.Proofs.Ytfbcjeknibfjcaa.P
