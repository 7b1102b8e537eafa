/- Several texts in one: G0, G1, G2. -/
import Derived.Test.YtkclehmjkncmnaaP0
import Derived.Test.YtkclehmjkncmnaaH
import Derived.Laws.Cover2
import Derived.Laws.StructEq
import Derived.Maps.Own
import Derived.Test.YtkclehmjkncmnaaR
/- Chapter 42: what the functions that are walked by hand answer. -/
namespace Go.Proofs.Ytkclehmjkncmnaa.P
open Go.RowKit Go.Proofs.YtkclehmjkncmnaaW.PrintWords Go.Proofs.YtkclehmjkncmnaaW.PrintLast Go.Proofs.YtkclehmjkncmnaaW.PrintMore
set_option linter.unusedVariables false

def inI (n lo hi : Int) : Bool := decide (lo ≤ n) && decide (n ≤ hi)
def isDev (n : Int) : Bool := inI n 0 3
def opV (o : S40) : Bool := ((decide (o.f2 = 1) && isDev o.f4) || (decide (o.f2 = 2) && decide (o.f4 = 0))) && (isDev o.f0 && (inI o.f1 1 65536 && (inI o.f3 0 1023 && inI o.f5 1 65536)))
def nums (o : S40) : List Int := [o.f3, o.f5, o.f0, o.f1, o.f2, o.f4]
/-- slices.Compare of two lists of numbers of one length. -/
def cmpL : List Int → List Int → Int
  | x :: a, y :: b => if x < y then -1 else if y < x then 1 else cmpL a b
  | _, _ => 0
def cmpO (a b : S40) : Int := cmpL (nums a) (nums b)
def sameKey (a b : S40) : Bool := decide (a.f0 = b.f0) && decide (a.f1 = b.f1)
/-- May the operation at place i of a list be there? -/
def opAtOk (l : List S40) (i : Nat) : Bool := opV (rd_T40 l i) && (!(l.take i).any (sameKey (rd_T40 l i)) && (decide (i = 0) || decide (cmpO (rd_T40 l ((i - 1 : Nat) : Int)) (rd_T40 l i) < 0)))
def chkD (l : List S40) : Bool := decide (l.length ≤ 256) && (List.range l.length).all (opAtOk l)
/-- Both lists' operations in order, those that are in both once. -/
def both : Nat → List S40 → List S40 → List S40
  | 0, _, _ => []
  | _ + 1, [], [] => []
  | k + 1, [], y :: b => y :: both k [] b
  | k + 1, x :: a, [] => x :: both k a []
  | k + 1, x :: a, y :: b => if cmpO x y < 0 then x :: both k a (y :: b) else if cmpO x y = 0 then x :: both k a b else y :: both k (x :: a) b
def merged (a b : List S40) : List S40 := both (a.length + b.length) a b
def apart : List S40 → Bool
  | [] => true
  | o :: l => !l.any (sameKey o) && apart l
def mergeV (a b : List S40) : List S40 × Int :=
  if chkD a = true then (if chkD b = true then (if apart (merged a b) = true then (if (merged a b).length ≤ 256 then (merged a b, 0) else ([], 2)) else ([], 420)) else ([], 420)) else ([], 420)
def stepH (h : S47) (o : S40) : S47 := if o.f5 = h.f2 + 1 ∧ o.f0 = h.f1 ∧ h.f3 = false then (if o.f2 = 1 then ⟨h.f0, o.f4, o.f5, h.f3⟩ else ⟨h.f0, h.f1, o.f5, true⟩) else h
def holdH (l : List S40) (c first : Int) : S47 := (l.filter fun o => decide (o.f3 = c)).foldl stepH ⟨c, first, 0, false⟩
def stateV (l : List S40) (copies first : Int) : List S47 × Int :=
  if chkD l = true then (if inI copies 0 1024 = true then (if isDev first = true then ((List.range copies.toNat).map fun c : Nat => holdH l c first, 0) else ([], 1)) else ([], 1)) else ([], 420)
def devices_Check.f (l0 : List S40) : Option Int := some (if chkD l0 = true then 0 else 420)
def devices_Merge.f (l0 l1 : List S40) : Option (List S40 × Int) := some (mergeV l0 l1)
def devices_State.f (l0 : List S40) (a1 a2 : Int) : Option (List S47 × Int) := some (stateV l0 a1 a2)
def wholeV (id counter : Int) (l : List S40) : Bool := (decide (0 ≤ id) && (decide (id < 4) && (decide (0 ≤ counter) && (decide (counter ≤ 65535) && chkD l)))) && ((l.filter fun o => decide (o.f0 = id)).all (fun o => decide (o.f1 ≤ counter)) && decide (((l.filter fun o => decide (o.f0 = id)).length : Int) = counter))
def rollback_device_whole.f (a0_0 : Int) (a0_1 : Int) (l0_2 : List S40) (a0_3 : Bool) : Option Bool := some (wholeV a0_0 a0_1 l0_2)
end Go.Proofs.Ytkclehmjkncmnaa.P
/- A map keyed by pairs of numbers, whose elements are true: what a lookup and a store come to. -/
namespace Go.Proofs.Ytkclehmjkncmnaa.P
open Go.RowKit Go.Proofs.YtkclehmjkncmnaaW.PrintWords Go.Proofs.YtkclehmjkncmnaaW.PrintLast Go.Proofs.YtkclehmjkncmnaaW.PrintMore
set_option linter.unusedVariables false

def keyV (p : Int × Int) : Value := .agg #[.int .i64 p.1, .int .i64 p.2]
set_option maxRecDepth 100000 in
theorem eq99 (a b c d : Int) (w : World) : (Op.equalIn 10000 99 (.agg #[.int .i64 a, .int .i64 b]) (.agg #[.int .i64 c, .int .i64 d])).run Try.prog w = .ok (a == c && b == d) w := by
  have u3 := Try.underlying3
  have a3 := Try.isAgg3
  have z3 := Try.sizeOf3
  have hS : Try.prog.underlying 99 = some (.struct (Try.prog.fieldsOf 99)) := by kernel_rfl
  have hp : Try.prog.stoodInHeld 99 = false := by kernel_rfl
  rw [show (10000 : Nat) = 9999 + 1 from rfl, run_equalIn_agg w 9999 99 _ _ hS hp]
  simp only [Program.fieldsOf, Try.underlying99]
  go_simp
  by_cases h1 : a = c <;> by_cases h2 : b = d <;> simp [h1, h2]
theorem run_eq99 (p q : Int × Int) (w : World) : (Op.equal 99 (keyV p) (keyV q)).run Try.prog w = .ok (decide (p = q)) w := by
  have := eq99 p.1 p.2 q.1 q.2 w
  have e : (p.1 == q.1 && p.2 == q.2) = decide (p = q) := by
    rcases p with ⟨a, b⟩
    rcases q with ⟨c, d⟩
    by_cases h1 : a = c <;> by_cases h2 : b = d <;> simp [h1, h2]
  rw [e] at this
  exact this
theorem run_check99 (e : Bool) (p : Int × Int) (w : World) : (Instr.checkKey e 10000 99 (keyV p)).run Try.prog w = .ok () w := by
  kernel_rfl
/-- A map's block reads as a list of keys. -/
def MapK (w : World) (b : Nat) (ks : List (Int × Int)) : Prop := ∃ (es : Array MapEntry) (clock : Nat), w.heap[b]? = some (.map es clock) ∧ es.toList.map (fun e => (e.key, e.val)) = ks.map fun p => (keyV p, Value.bool true)
theorem find99 (p : Int × Int) (w : World) : ∀ (es : List MapEntry) (ks : List (Int × Int)) (i : Nat), es.map (fun e => (e.key, e.val)) = ks.map (fun p => (keyV p, Value.bool true)) →
    ∃ r, (Instr.findAsking 99 (keyV p) es i).run Try.prog w = .ok r w ∧ ((p ∈ ks ∧ ∃ j, r = some (j, .bool true)) ∨ (p ∉ ks ∧ r = none)) := by
  intro es
  induction es with
  | nil =>
    intro ks i h
    cases ks with
    | nil => exact ⟨none, rfl, .inr ⟨by simp, rfl⟩⟩
    | cons q ks => cases h
  | cons e es ih =>
    intro ks i h
    cases ks with
    | nil => cases h
    | cons q ks =>
      simp only [List.map_cons, List.cons.injEq, Prod.mk.injEq] at h
      obtain ⟨⟨hk, hv⟩, h⟩ := h
      unfold Instr.findAsking
      rw [hk, hv]
      simp only [Sem.run_bind, run_eq99, Result.andThen_ok]
      by_cases hpq : p = q
      · subst hpq
        refine ⟨some (i, .bool true), by simp, .inl ⟨by simp, i, rfl⟩⟩
      · obtain ⟨r, h1, h2⟩ := ih ks (i + 1) h
        refine ⟨r, by simp [hpq]; exact h1, ?_⟩
        rcases h2 with ⟨h2, h3⟩ | ⟨h2, h3⟩
        · exact .inl ⟨by simp [h2], h3⟩
        · exact .inr ⟨by simp [hpq, h2], h3⟩
theorem findKey99 (p : Int × Int) (w : World) (es : List MapEntry) (ks : List (Int × Int)) (h : es.map (fun e => (e.key, e.val)) = ks.map (fun p => (keyV p, Value.bool true))) :
    ∃ r, (Instr.findKey 99 (keyV p) es).run Try.prog w = .ok r w ∧ ((p ∈ ks ∧ ∃ j, r = some (j, .bool true)) ∨ (p ∉ ks ∧ r = none)) := by
  have hu : (underlying 99).run Try.prog w = .ok (.struct (Try.prog.fieldsOf 99)) w := run_underlying (by kernel_rfl) w
  unfold Instr.findKey
  simp only [Sem.run_bind, hu, Result.andThen_ok]
  cases es with
  | nil =>
    cases ks with
    | nil => exact ⟨none, rfl, .inr ⟨by simp, rfl⟩⟩
    | cons q ks => cases h
  | cons e es =>
    have : Instr.findNow (.struct (Try.prog.fieldsOf 99)) (keyV p) (e :: es) 0 = none := rfl
    rw [this]
    exact find99 p w (e :: es) ks 0 h
theorem look99 {w : World} {b : Nat} {ks : List (Int × Int)} (h : MapK w b ks) (p : Int × Int) : (Instr.lookup 97 (.map (some b)) (keyV p) false).run Try.prog w = .ok (.bool (decide (p ∈ ks))) w := by
  obtain ⟨es, clock, hb, hk⟩ := h
  obtain ⟨r, h1, h2⟩ := findKey99 p w es.toList ks hk
  have hz : (zeroValue 4).run Try.prog w = .ok (.bool false) w := by kernel_rfl
  unfold Instr.lookup
  simp only [Sem.run_bind, run_underlying Try.underlying97, Result.andThen_ok, MapKept.run_getObj_map hb, run_check99, h1, Sem.run_pure]
  rcases h2 with ⟨h2, j, rfl⟩ | ⟨h2, rfl⟩
  · simp [h2]
  · simp [h2, hz]
theorem upd99 {w : World} {b : Nat} {ks : List (Int × Int)} (h : MapK w b ks) (p : Int × Int) (hp : p ∉ ks) :
    ∃ o, (Instr.mapUpdate 97 (.map (some b)) (keyV p) (.bool true)).run Try.prog w = .ok () (w.putObj b o) ∧ MapK (w.putObj b o) b (ks ++ [p]) := by
  obtain ⟨es, clock, hb, hk⟩ := h
  obtain ⟨r, h1, h2⟩ := findKey99 p w es.toList ks hk
  have hlt : b < w.heap.size := (Array.getElem?_eq_some_iff.1 hb).1
  rcases h2 with ⟨h2, _⟩ | ⟨_, rfl⟩
  · exact absurd h2 hp
  · refine ⟨.map (es.push { key := keyV p, val := .bool true, born := clock }) (clock + 1), ?_, ?_⟩
    · unfold Instr.mapUpdate
      simp only [Sem.run_bind, run_underlying Try.underlying97, Result.andThen_ok, MapKept.run_getObj_map hb, run_check99, h1, MapKept.run_setObj_map _ hb]
      rfl
    · exact ⟨_, _, World.putObj_heap_same hlt, by simp [hk]⟩
theorem MapK.new (w : World) : MapK (w.alloc (.map #[] 0)) w.heap.size [] := ⟨#[], 0, World.alloc_heap_new _ _, rfl⟩
theorem MapK.below {w w' : World} {b : Nat} {ks : List (Int × Int)} (h : MapK w b ks) (hb : Below w.heap.size w w') : MapK w' b ks := by
  obtain ⟨es, clock, h1, h2⟩ := h
  exact ⟨es, clock, (hb.block _ (Array.getElem?_eq_some_iff.1 h1).1).trans h1, h2⟩
end Go.Proofs.Ytkclehmjkncmnaa.P
-- printed by gprint.py (a program of this seat over the kit's print.py): Lean checks it
namespace Go.Proofs.Ytkclehmjkncmnaa.P
open Go.RowKit Go.Proofs.YtkclehmjkncmnaaW.PrintWords Go.Proofs.YtkclehmjkncmnaaW.PrintLast Go.Proofs.YtkclehmjkncmnaaW.PrintMore
attribute [local go_sem] max2_int min2_int max_two min_two max_three min_three max_four min_four   -- for this text's walks alone
set_option linter.unusedVariables false
set_option linter.unusedSimpArgs false

/-! ### devices_compare1: function 83 -/
def devices_compare1.f (a0_0 : Int) (a0_1 : Int) (a0_2 : Int) (a0_3 : Int) (a0_4 : Int) (a0_5 : Int) : Option (List Int) := some (([a0_3, a0_5, a0_0, a0_1, a0_2, a0_4] : List Int))
set_option maxHeartbeats 8000000 in
set_option maxRecDepth 100000 in
theorem devices_compare1.calls (a0_0 : Int) (a0_1 : Int) (a0_2 : Int) (a0_3 : Int) (a0_4 : Int) (a0_5 : Int) (r : List Int) (w : World) (h : devices_compare1.f a0_0 a0_1 a0_2 a0_3 a0_4 a0_5 = some r) :
    Calls Try.prog 83 #[.agg #[.int .i64 a0_0, .int .i64 a0_1, .int .i64 a0_2, .int .i64 a0_3, .int .i64 a0_4, .int .i64 a0_5]] w fun e w' => ∃ v0_ : Value, e = .returned (v0_) ∧ Kd.R (Kd.int .i64) 3 w' w.heap.size (fun _ => True) v0_ r ∧ Below w.heap.size w w' := by
  have hu40 := Try.underlying40
  have HB := Aside0.mk (Below.refl w.heap.size w)
  have H : (some (([a0_3, a0_5, a0_0, a0_1, a0_2, a0_4] : List Int))) = some r := h
  clear h
  obtain ⟨y212, hy212⟩ : ∃ y_ : List Int, y_ = (([a0_3, a0_5, a0_0, a0_1, a0_2, a0_4] : List Int)) := ⟨_, rfl⟩
  replace H : (some y212) = some r := by first | (rw [hy212]; with_reducible exact H) | (have H2_ := (Option.bind_some _ _).symm.trans H; rw [hy212]; with_reducible exact H2_) | (have H2_ := (Option.bind_some _ _).symm.trans H; with_reducible exact H2_) | with_reducible exact H | (rw [hy212]; exact H) | exact H
  have Ny212 := Aside0.mk hy212
  clear hy212
  obtain rfl := Option.some.inj H
  go_enter Try.func83, Try.ntmps83
  go_wp2_with (first | ((with_reducible refine gate_dst (N := 1) rfl ?_); refine box_event ?hg (N := 1) ?hd (cs := #[.int .i64 a0_0, .int .i64 a0_1, .int .i64 a0_2, .int .i64 a0_3, .int .i64 a0_4, .int .i64 a0_5]) (t := 40) ?hr ?_; (case hd => rfl); (case hg => rfl); (case hr => first | (go_simp; done) | (go_simp; rfl)); intro gb211 hg w2 hbox hb; have n0_ := Aside0.mk (below_step (by repeat (first | (with_reducible first | exact HB.out | apply below_alloc | apply pw_below_drewN | apply below_drew1) | exact HB.out)) hb); have n1_ := Aside0.mk (hbox); have n2_ := Aside0.mk ((by rw [hg]; exact (below_size (by repeat (first | (with_reducible first | exact HB.out | apply below_alloc | apply pw_below_drewN | apply below_drew1) | exact HB.out))) : w.heap.size ≤ gb211)); have n3_ := Aside0.mk ((by rw [hg]; exact (below_size (by repeat (first | (with_reducible first | exact HB.out | apply below_alloc | apply pw_below_drewN | apply below_drew1) | exact HB.out))) : w.heap.size ≤ gb211)); clear HB; have HB := n0_; have BK211 := n1_; have GW211 := n2_; have GE211 := n3_; clear n0_ n1_ n2_ n3_; clear hb hbox hg; have hcz3_0 : w2.cell? ⟨gb211, 0, none⟩ = some (.int .i64 a0_0) := (blk_cell BK211.out 0).trans rfl; have hcz3_1 : w2.cell? ⟨gb211, 1, none⟩ = some (.int .i64 a0_1) := (blk_cell BK211.out 1).trans rfl; have hcz3_2 : w2.cell? ⟨gb211, 2, none⟩ = some (.int .i64 a0_2) := (blk_cell BK211.out 2).trans rfl; have hcz3_3 : w2.cell? ⟨gb211, 3, none⟩ = some (.int .i64 a0_3) := (blk_cell BK211.out 3).trans rfl; have hcz3_4 : w2.cell? ⟨gb211, 4, none⟩ = some (.int .i64 a0_4) := (blk_cell BK211.out 4).trans rfl; have hcz3_5 : w2.cell? ⟨gb211, 5, none⟩ = some (.int .i64 a0_5) := (blk_cell BK211.out 5).trans rfl; have hfz3_0 := blk_frozen BK211.out 0; have hfz3_1 := blk_frozen BK211.out 1; have hfz3_2 := blk_frozen BK211.out 2; have hfz3_3 := blk_frozen BK211.out 3; have hfz3_4 := blk_frozen BK211.out 4; have hfz3_5 := blk_frozen BK211.out 5) | ((with_reducible refine gate_dst (N := 15) rfl ?_); refine Kd.R_lit (Kd.int .i64) _ 3 ?hg (N := 15) ?hd (xs := ([a0_3, a0_5, a0_0, a0_1, a0_2, a0_4] : List Int)) (inner := [.int .i64 a0_3, .int .i64 a0_5, .int .i64 a0_0, .int .i64 a0_1, .int .i64 a0_2, .int .i64 a0_4]) (ok := fun _ => True) (okp := fun _ => True) ?hr ?hp (fun _ hk => hk) trivial (Below.refl _ _) (Nat.le_refl _) (by simp) ?_; (case hd => rfl); (case hg => rfl); (case hr => first | (go_simp; done) | (go_simp; rfl)); (case hp => exact (Reps.one (show Kd.M (Kd.int .i64) _ _ _ a0_3 [.int .i64 a0_3] from rfl) (Reps.one (show Kd.M (Kd.int .i64) _ _ _ a0_5 [.int .i64 a0_5] from rfl) (Reps.one (show Kd.M (Kd.int .i64) _ _ _ a0_0 [.int .i64 a0_0] from rfl) (Reps.one (show Kd.M (Kd.int .i64) _ _ _ a0_1 [.int .i64 a0_1] from rfl) (Reps.one (show Kd.M (Kd.int .i64) _ _ _ a0_2 [.int .i64 a0_2] from rfl) (Reps.one (show Kd.M (Kd.int .i64) _ _ _ a0_4 [.int .i64 a0_4] from rfl) (Reps.none _ _)))))))); intro v213 w4 ho5 hb hg_ hnew_; clear hg_ hnew_; (first | rw [← Ny212.out] at ho5 | (simp only [Int.reduceToNat] at ho5; rw [← Ny212.out] at ho5)); have n0_ := Aside0.mk (Kd.R_lower ho5 (below_size (by repeat (first | (with_reducible first | exact HB.out | apply below_alloc | apply pw_below_drewN | apply below_drew1 | refine below_set ?_ GE211.out) | exact HB.out)))); have n1_ := Aside0.mk (blk_below (g := gb211) (o := .cells #[.int .i64 a0_0, .int .i64 a0_1, .int .i64 a0_2, .int .i64 a0_3, .int .i64 a0_4, .int .i64 a0_5] 40 (0, 0)) (by (with_reducible repeat (first | refine blk_drewN ?_ _ | refine blk_drew ?_ | refine blk_alloc ?_ _)); exact BK211.out) hb); have n2_ := Aside0.mk (below_step (by repeat (first | (with_reducible first | exact HB.out | apply below_alloc | apply pw_below_drewN | apply below_drew1 | refine below_set ?_ GE211.out) | exact HB.out)) hb); clear BK211; clear HB; have HO214 := n0_; have BK211 := n1_; have HB := n2_; clear n0_ n1_ n2_; clear hb ho5))
  go_ret
  exact ⟨_, by first | rfl | (simp [errW_none, errW_some] <;> rfl) | (simp [*, errW_none, errW_some] <;> rfl), by (with_reducible repeat (first | apply Kd.R_alloc | apply Kd.R_drewN | apply Kd.R_drew)); exact HO214.out, by repeat (first | (with_reducible first | exact HB.out | apply below_alloc | apply pw_below_drewN | apply below_drew1 | refine below_set ?_ GE211.out) | exact HB.out)⟩

end Go.Proofs.Ytkclehmjkncmnaa.P
