/- Several texts in one: G5, G6, G7, G8, G9. -/
import Derived.Test.YtkclehmjkncmnaaGB
import Derived.BigRegion
import Derived.Deep.RegionLaw
import Derived.StillTailTactics
import Derived.Test.YtkclehmjkncmnaaMA
/- A map keyed by numbers, whose elements are holdings: what a lookup and a store come to. -/
namespace Go.Proofs.Ytkclehmjkncmnaa.P
open Go.RowKit Go.Proofs.YtkclehmjkncmnaaW.PrintWords Go.Proofs.YtkclehmjkncmnaaW.PrintLast Go.Proofs.YtkclehmjkncmnaaW.PrintMore
set_option linter.unusedVariables false

def s47v (h : S47) : Value := .agg #[.int .i64 h.f0, .int .i64 h.f1, .int .i64 h.f2, .bool h.f3]
/-- What a list of pairs says of a key. -/
def getH : List (Int × S47) → Int → Option S47
  | [], _ => none
  | p :: l, k => if p.1 = k then some p.2 else getH l k
def putH : List (Int × S47) → Int → S47 → List (Int × S47)
  | [], k, h => [(k, h)]
  | p :: l, k, h => if p.1 = k then (k, h) :: l else p :: putH l k h
theorem getH_put (l : List (Int × S47)) (k : Int) (h : S47) (j : Int) : getH (putH l k h) j = if j = k then some h else getH l j := by
  induction l with
  | nil =>
    simp only [putH, getH]
    by_cases hj : j = k
    · simp [hj]
    · simp [hj, Ne.symm hj]
  | cons p l ih =>
    simp only [putH]
    by_cases hp : p.1 = k
    · simp only [hp, if_true, getH]
      by_cases hj : j = k
      · simp [hj]
      · simp [hj, Ne.symm hj]
    · simp only [hp, if_false, getH, ih]
      by_cases hj : j = k
      · simp [hj, hp]
      · simp [hj]
/-- A map's block reads as a list of numbers with holdings. -/
def MapH (w : World) (b : Nat) (ks : List (Int × S47)) : Prop := ∃ (es : Array MapEntry) (clock : Nat), w.heap[b]? = some (.map es clock) ∧ es.toList.map (fun e => (e.key, e.val)) = ks.map fun p => (Value.int .i64 p.1, s47v p.2)
theorem now88 (k : Int) : ∀ (es : List MapEntry) (ks : List (Int × S47)) (i : Nat), es.map (fun e => (e.key, e.val)) = ks.map (fun p => (Value.int .i64 p.1, s47v p.2)) →
    ∃ r, Instr.findNow (.int .i64) (.int .i64 k) es i = some r ∧ ((getH ks k = none ∧ r = none) ∨ (∃ j h, getH ks k = some h ∧ r = some (i + j, s47v h) ∧ (es[j]?).map (·.key) = some (.int .i64 k) ∧ ∀ v, ((es.modify j fun e => { e with key := .int .i64 k, val := s47v v }).map (fun e => (e.key, e.val)) = (putH ks k v).map fun p => (Value.int .i64 p.1, s47v p.2)))) := by
  intro es
  induction es with
  | nil =>
    intro ks i h
    cases ks with
    | nil => exact ⟨none, rfl, .inl ⟨rfl, rfl⟩⟩
    | cons q ks => cases h
  | cons e es ih =>
    intro ks i h
    cases ks with
    | nil => cases h
    | cons q ks =>
      simp only [List.map_cons, List.cons.injEq, Prod.mk.injEq] at h
      obtain ⟨⟨hk, hv⟩, h⟩ := h
      unfold Instr.findNow
      rw [hk, hv]
      by_cases hq : k = q.1
      · subst hq
        refine ⟨some (i, s47v q.2), by simp [Instr.sameNow], .inr ⟨0, q.2, by simp [getH], by simp, by simp [hk], fun v => ?_⟩⟩
        simp [putH, h]
      · obtain ⟨r, h1, h2⟩ := ih ks (i + 1) h
        have e0 : (k == q.1) = false := by simpa using hq
        refine ⟨r, by simp [Instr.sameNow, e0]; exact h1, ?_⟩
        rcases h2 with ⟨h2, h3⟩ | ⟨j, x, h2, h3, h4, h5⟩
        · exact .inl ⟨by simp [getH, Ne.symm hq, h2], h3⟩
        · refine .inr ⟨j + 1, x, by simp [getH, Ne.symm hq, h2], by rw [h3, show i + 1 + j = i + (j + 1) by omega], by simpa using h4, fun v => ?_⟩
          simp only [putH, if_neg (Ne.symm hq), List.modify_succ_cons, List.map_cons, h5 v, hk, hv]
theorem find88 (k : Int) (w : World) (es : List MapEntry) (ks : List (Int × S47)) (h : es.map (fun e => (e.key, e.val)) = ks.map (fun p => (Value.int .i64 p.1, s47v p.2))) :
    ∃ r, (Instr.findKey 3 (.int .i64 k) es).run Try.prog w = .ok r w ∧ ((getH ks k = none ∧ r = none) ∨ (∃ j h, getH ks k = some h ∧ r = some (j, s47v h) ∧ (es[j]?).map (·.key) = some (.int .i64 k) ∧ ∀ v, ((es.modify j fun e => { e with key := .int .i64 k, val := s47v v }).map (fun e => (e.key, e.val)) = (putH ks k v).map fun p => (Value.int .i64 p.1, s47v p.2)))) := by
  obtain ⟨r, h1, h2⟩ := now88 k es ks 0 h
  refine ⟨r, ?_, by simpa using h2⟩
  unfold Instr.findKey
  simp only [Sem.run_bind, run_underlying Try.underlying3, Result.andThen_ok, h1, Sem.run_pure]
theorem run_check3 (e : Bool) (k : Int) (w : World) : (Instr.checkKey e 10000 3 (.int .i64 k)).run Try.prog w = .ok () w := by kernel_rfl
theorem look88 {w : World} {b : Nat} {ks : List (Int × S47)} (h : MapH w b ks) (k : Int) : (Instr.lookup 88 (.map (some b)) (.int .i64 k) true).run Try.prog w = .ok (.tuple #[s47v ((getH ks k).getD z47), .bool (getH ks k).isSome]) w := by
  obtain ⟨es, clock, hb, hk⟩ := h
  obtain ⟨r, h1, h2⟩ := find88 k w es.toList ks hk
  have hz : (zeroValue 47).run Try.prog w = .ok (s47v z47) w := by kernel_rfl
  unfold Instr.lookup
  simp only [Sem.run_bind, run_underlying Try.underlying88, Result.andThen_ok, MapKept.run_getObj_map hb, run_check3, h1, Sem.run_pure]
  rcases h2 with ⟨h2, rfl⟩ | ⟨j, x, h2, rfl, _, _⟩
  · simp [h2, hz]
  · simp [h2]
theorem putH_none {l : List (Int × S47)} {k : Int} {h : S47} (hn : getH l k = none) : putH l k h = l ++ [(k, h)] := by
  induction l with
  | nil => rfl
  | cons p l ih =>
    simp only [getH] at hn
    by_cases hp : p.1 = k
    · simp [hp] at hn
    · simp only [hp, if_false] at hn
      simp [putH, hp, ih hn]
theorem upd88 {w : World} {b : Nat} {ks : List (Int × S47)} (h : MapH w b ks) (k : Int) (v : S47) :
    ∃ o, (Instr.mapUpdate 88 (.map (some b)) (.int .i64 k) (s47v v)).run Try.prog w = .ok () (w.putObj b o) ∧ MapH (w.putObj b o) b (putH ks k v) := by
  obtain ⟨es, clock, hb, hk⟩ := h
  obtain ⟨r, h1, h2⟩ := find88 k w es.toList ks hk
  have hlt : b < w.heap.size := (Array.getElem?_eq_some_iff.1 hb).1
  rcases h2 with ⟨h2, rfl⟩ | ⟨j, x, h2, rfl, hj, h5⟩
  · refine ⟨.map (es.push { key := .int .i64 k, val := s47v v, born := clock }) (clock + 1), ?_, ?_⟩
    · unfold Instr.mapUpdate
      simp only [Sem.run_bind, run_underlying Try.underlying88, Result.andThen_ok, MapKept.run_getObj_map hb, run_check3, h1, MapKept.run_setObj_map _ hb]
      rfl
    · exact ⟨_, _, World.putObj_heap_same hlt, by simp [hk, putH_none h2]⟩
  · refine ⟨.map (es.modify j fun e => { e with key := .int .i64 k, val := s47v v }) clock, ?_, ?_⟩
    · have hs : (Instr.keyThatStays (.int .i64 k) (.int .i64 k)).run Try.prog w = .ok (.int .i64 k) w := by
        unfold Instr.keyThatStays
        rw [if_pos (by simp [Instr.sameBits])]
        rfl
      have hj2 : ((es[j]?).map (·.key)).getD (.int .i64 k) = .int .i64 k := by
        rw [← Array.getElem?_toList, hj]
        rfl
      unfold Instr.mapUpdate
      simp only [Sem.run_bind, run_underlying Try.underlying88, Result.andThen_ok, MapKept.run_getObj_map hb, run_check3, h1, hj2, hs, MapKept.run_setObj_map _ hb]
      rfl
    · exact ⟨_, _, World.putObj_heap_same hlt, by rw [Array.toList_modify]; exact h5 v⟩
theorem MapH.new (w : World) : MapH (w.alloc (.map #[] 0)) w.heap.size [] := ⟨#[], 0, World.alloc_heap_new _ _, rfl⟩
theorem MapH.below {w w' : World} {b : Nat} {ks : List (Int × S47)} (h : MapH w b ks) (hb : Below w.heap.size w w') : MapH w' b ks := by
  obtain ⟨es, clock, h1, h2⟩ := h
  exact ⟨es, clock, (hb.block _ (Array.getElem?_eq_some_iff.1 h1).1).trans h1, h2⟩
theorem MapH.at {w w' : World} {b : Nat} {ks : List (Int × S47)} (h : MapH w b ks) (hb : w'.heap[b]? = w.heap[b]?) : MapH w' b ks := by
  obtain ⟨es, clock, h1, h2⟩ := h
  exact ⟨es, clock, hb.trans h1, h2⟩
end Go.Proofs.Ytkclehmjkncmnaa.P
/- The closures of devices.State. -/
namespace Go.Proofs.Ytkclehmjkncmnaa.P
open Go.RowKit Go.Proofs.YtkclehmjkncmnaaW.PrintWords Go.Proofs.YtkclehmjkncmnaaW.PrintLast Go.Proofs.YtkclehmjkncmnaaW.PrintMore
set_option linter.unusedVariables false

def boxH (h : S47) : Obj := .cells #[.int .i64 h.f0, .int .i64 h.f1, .int .i64 h.f2, .bool h.f3] 47
theorem cell_of {w w' : World} {b : Nat} (h : w'.heap[b]? = w.heap[b]?) (i : Nat) : w'.cell? ⟨b, i, none⟩ = w.cell? ⟨b, i, none⟩ := by
  simp only [World.cell?, h]
def startH (ks : List (Int × S47)) (k first : Int) : S47 := (getH ks k).getD ⟨k, first, 0, false⟩
set_option maxHeartbeats 4000000 in
set_option maxRecDepth 100000 in
theorem change_calls (fn : FuncId) (cp : Addr) (bm bf mb : Nat) (first k : Int) (ks : List (Int × S47)) (step : S47 → S47) (R : World → Prop) (w : World)
    (henter : ∀ args w, (callFunc fn args).run Try.prog w = .ok (.enter fn args) w)
    (hm : w.cell? ⟨bm, 0, none⟩ = some (.map (some mb))) (hM : MapH w mb ks) (hf : w.cell? ⟨bf, 0, none⟩ = some (.int .i64 first)) (hbm : bm < w.heap.size) (hbf : bf < w.heap.size)
    (hg : ∀ W, Below w.heap.size w W → W.heap.size = w.heap.size + 1 → W.heap[w.heap.size]? = some (boxH (startH ks k first)) → Calls Try.prog fn #[.pointer (some ⟨w.heap.size, 0, none⟩), .pointer (some cp)] W fun e W' =>
      (∃ v, e = .returned v) ∧ W'.heap[w.heap.size]? = some (boxH (step (startH ks k first))) ∧ W'.heap[bm]? = W.heap[bm]? ∧ W'.heap[mb]? = W.heap[mb]? ∧ R W') :
    Calls Try.prog 56 #[.int .i64 k, .func (.func fn) #[] #[.pointer (some cp)], .pointer (some ⟨bm, 0, none⟩), .pointer (some ⟨bf, 0, none⟩)] w fun e w' =>
      (∃ v, e = .returned v) ∧ ∃ W' o, R W' ∧ w' = W'.putObj mb o ∧ MapH w' mb (putH ks k (step (startH ks k first))) := by
  have hu47 := Try.underlying47
  have hlk := look88 hM k
  have HG := Aside0.mk hg
  clear hg
  cases hk : getH ks k with
  | none =>
    rw [hk] at hlk
    simp only [Option.getD_none, Option.isSome_none, s47v] at hlk
    go_enter Try.func56, Try.ntmps56
    go_wp2
    (refine (HG.out _ (below_alloc (Below.refl _ _) _) (by simp) (by rw [World.alloc_heap_new]; simp only [startH, hk]; rfl)).mono ?_)
    rintro e W' ⟨⟨v, rfl⟩, hbox, hb1, hb2, hR⟩
    have hm' : W'.cell? ⟨bm, 0, none⟩ = some (.map (some mb)) := (cell_of (hb1.trans (Below.heap_alloc _ _ _ hbm)) 0).trans hm
    have hmb : mb < w.heap.size := by
      obtain ⟨es, clock, h1, _⟩ := hM
      exact (Array.getElem?_eq_some_iff.1 h1).1
    have hM' : MapH W' mb ks := hM.at (hb2.trans (Below.heap_alloc _ _ _ hmb))
    obtain ⟨o, hup, hM2⟩ := upd88 hM' k (step (startH ks k first))
    simp only [s47v] at hup
    have hc0 := blk_cell hbox 0
    have hc1 := blk_cell hbox 1
    have hc2 := blk_cell hbox 2
    have hc3 := blk_cell hbox 3
    simp only [List.getElem?_toArray, List.getElem?_cons_zero, List.getElem?_cons_succ] at hc0 hc1 hc2 hc3
    have HR := Aside0.mk hR
    have HM2 := Aside0.mk hM2
    clear hR hM2 hM hM' hm hf hb1 hb2 hbox
    go_wp2
    go_end0
    exact ⟨⟨_, rfl⟩, W', o, HR.out, rfl, HM2.out⟩
  | some h =>
    rw [hk] at hlk
    simp only [Option.getD_some, Option.isSome_some, s47v] at hlk
    go_enter Try.func56, Try.ntmps56
    go_wp2
    (refine (HG.out _ (below_alloc (Below.refl _ _) _) (by simp) (by rw [World.alloc_heap_new]; simp only [startH, hk]; rfl)).mono ?_)
    rintro e W' ⟨⟨v, rfl⟩, hbox, hb1, hb2, hR⟩
    have hm' : W'.cell? ⟨bm, 0, none⟩ = some (.map (some mb)) := (cell_of (hb1.trans (Below.heap_alloc _ _ _ hbm)) 0).trans hm
    have hmb : mb < w.heap.size := by
      obtain ⟨es, clock, h1, _⟩ := hM
      exact (Array.getElem?_eq_some_iff.1 h1).1
    have hM' : MapH W' mb ks := hM.at (hb2.trans (Below.heap_alloc _ _ _ hmb))
    obtain ⟨o, hup, hM2⟩ := upd88 hM' k (step (startH ks k first))
    simp only [s47v] at hup
    have hc0 := blk_cell hbox 0
    have hc1 := blk_cell hbox 1
    have hc2 := blk_cell hbox 2
    have hc3 := blk_cell hbox 3
    simp only [List.getElem?_toArray, List.getElem?_cons_zero, List.getElem?_cons_succ] at hc0 hc1 hc2 hc3
    have HR := Aside0.mk hR
    have HM2 := Aside0.mk hM2
    clear hR hM2 hM hM' hm hf hb1 hb2 hbox
    go_wp2
    go_end0
    exact ⟨⟨_, rfl⟩, W', o, HR.out, rfl, HM2.out⟩
end Go.Proofs.Ytkclehmjkncmnaa.P
/- The closures of devices.State: an operation's step; a copy's holding put into the list. -/
namespace Go.Proofs.Ytkclehmjkncmnaa.P
open Go.RowKit Go.Proofs.YtkclehmjkncmnaaW.PrintWords Go.Proofs.YtkclehmjkncmnaaW.PrintLast Go.Proofs.YtkclehmjkncmnaaW.PrintMore
set_option linter.unusedVariables false

def boxO (o : S40) : Obj := .cells #[.int .i64 o.f0, .int .i64 o.f1, .int .i64 o.f2, .int .i64 o.f3, .int .i64 o.f4, .int .i64 o.f5] 40
set_option maxHeartbeats 4000000 in
set_option maxRecDepth 100000 in
theorem step_calls (b ob : Nat) (h : S47) (o : S40) (W : World) (hne : ob ≠ b) (hb : W.heap[b]? = some (boxH h)) (ho : W.heap[ob]? = some (boxO o)) (hl : 0 ≤ h.f2) (hl2 : h.f2 ≤ 65536) :
  Calls Try.prog 57 #[.pointer (some ⟨b, 0, none⟩), .pointer (some ⟨ob, 0, none⟩)] W fun e W' =>
   (∃ v, e = .returned v) ∧ W'.heap[b]? = some (boxH (stepH h o)) ∧ (∀ c, c ≠ b → W'.heap[c]? = W.heap[c]?) ∧ Below b W W' := by
 have hu47 := Try.underlying47
 have hu40 := Try.underlying40
 have h0 := blk_cell hb 0
 have h1 := blk_cell hb 1
 have h2 := blk_cell hb 2
 have h3 := blk_cell hb 3
 have o0 := blk_cell ho 0
 have o2 := blk_cell ho 2
 have o4 := blk_cell ho 4
 have o5 := blk_cell ho 5
 simp only [List.getElem?_toArray, List.getElem?_cons_zero, List.getElem?_cons_succ] at h0 h1 h2 h3 o0 o2 o4 o5
 have hw : IntKind.i64.wrap (h.f2 + 1) = h.f2 + 1 := IntWalk.i64_in _ (by omega)
 have HBK := Aside0.mk hb
 have z1 := blk_frozen hb 1
 have z2 := blk_frozen hb 2
 have z3 := blk_frozen hb 3
 clear ho hb
 by_cases c1 : o.f5 = h.f2 + 1
 ·have c1b : (o.f5 != h.f2 + 1) = false := by simp [c1]
  by_cases c2 : o.f0 = h.f1
  ·have c2b : (o.f0 != h.f1) = false := by simp [c2]
   cases c3 : h.f3
   ·rw [c3] at h3
    by_cases c4 : o.f2 = 1
    ·have c4b : (o.f2 == 1) = true := by simp [c4]
     have HST : Aside0 (stepH h o = ⟨h.f0, o.f4, o.f5, h.f3⟩) := ⟨by simp [stepH, c1, c2, c3, c4]⟩
     have HC := Aside0.mk c1
     go_enter Try.func57, Try.ntmps57
     go_wp2
     go_quiet (fail)
     go_wp2
     go_region
     go_wp2
     go_end0
     refine ⟨⟨_, rfl⟩, ?_, ?_, ?_⟩
     ·rw [HST.out]; refine blk_put (cs := #[.int .i64 h.f0, .int .i64 h.f1, .int .i64 (h.f2 + 1), .bool h.f3]) (blk_put (cs := #[.int .i64 h.f0, .int .i64 h.f1, .int .i64 h.f2, .bool h.f3]) HBK.out _ _ rfl) _ _ ?_; rw [HC.out]; rfl
     ·intro c hc; rw [Below.heap_setCell _ _ _ _ hc, Below.heap_setCell _ _ _ _ hc]; rfl
     ·exact Below.setCell (p := ⟨b, 1, none⟩) (Below.setCell (p := ⟨b, 2, none⟩) (pw_below_drewN (Below.refl _ _) _) (Nat.le_refl _) _) (Nat.le_refl _) _
    ·have c4b : (o.f2 == 1) = false := by simp [c4]
     have HST : Aside0 (stepH h o = ⟨h.f0, h.f1, o.f5, true⟩) := ⟨by simp [stepH, c1, c2, c3, c4]⟩
     have HC := Aside0.mk c1
     go_enter Try.func57, Try.ntmps57
     go_wp2
     repeat (go_quiet (fail); try go_wp2)
     skip
     all_goals (go_end0; refine ⟨⟨_, rfl⟩, ?_, ?_, ?_⟩)
     all_goals first
      | (rw [HST.out]; refine blk_put (cs := #[.int .i64 h.f0, .int .i64 h.f1, .int .i64 (h.f2 + 1), .bool h.f3]) (blk_put (cs := #[.int .i64 h.f0, .int .i64 h.f1, .int .i64 h.f2, .bool h.f3]) HBK.out _ _ rfl) _ _ ?_; rw [HC.out]; rfl)
      | (intro c hc; rw [Below.heap_setCell _ _ _ _ hc, Below.heap_setCell _ _ _ _ hc]; rfl)
      | exact Below.setCell (p := ⟨b, 3, none⟩) (Below.setCell (p := ⟨b, 2, none⟩) (pw_below_drewN (Below.refl _ _) _) (Nat.le_refl _) _) (Nat.le_refl _) _
   ·have HST : Aside0 (stepH h o = h) := ⟨by simp [stepH, c3]⟩
    rw [c3] at h3
    go_enter Try.func57, Try.ntmps57
    go_wp2
    repeat (go_quiet (fail); try go_wp2)
    go_end0
    exact ⟨⟨_, rfl⟩, by rw [HST.out]; exact HBK.out, fun c _ => rfl, by repeat (first | exact Below.refl _ _ | apply pw_below_drewN | apply below_drew1)⟩
  ·have c2b : (o.f0 != h.f1) = true := by simp [c2]
   have HST : Aside0 (stepH h o = h) := ⟨by simp [stepH, c2]⟩
   go_enter Try.func57, Try.ntmps57
   go_wp2
   repeat (go_quiet (fail); try go_wp2)
   go_end0
   exact ⟨⟨_, rfl⟩, by rw [HST.out]; exact HBK.out, fun c _ => rfl, by repeat (first | exact Below.refl _ _ | apply pw_below_drewN | apply below_drew1)⟩
 ·have c1b : (o.f5 != h.f2 + 1) = true := by simp [c1]
  have HST : Aside0 (stepH h o = h) := ⟨by simp [stepH, c1]⟩
  go_enter Try.func57, Try.ntmps57
  go_wp2
  repeat (go_quiet (fail); try go_wp2)
  go_end0
  exact ⟨⟨_, rfl⟩, by rw [HST.out]; exact HBK.out, fun c _ => rfl, by repeat (first | exact Below.refl _ _ | apply pw_below_drewN | apply below_drew1)⟩
/-- A copy's holding is put into the list. -/
def PutH (w0 : World) (base hb : Nat) (H : List S47) (W : World) : Prop := ∃ v, W.heap[hb]? = some (.cells #[v] 43 (0, 0)) ∧ Kd.R k47 47 W base (fun _ => True) v H ∧ Below base w0 W ∧ base ≤ W.heap.size
theorem k47_E : k47.E = [] := rfl
set_option maxHeartbeats 4000000 in
set_option maxRecDepth 100000 in
theorem put_calls (w0 : World) (base xb hb : Nat) (x : S47) (H : List S47) (v : Value) (W : World) (hx : W.heap[xb]? = some (boxH x)) (hv : W.heap[hb]? = some (.cells #[v] 43 (0, 0)))
  (hR : Kd.R k47 47 W base (fun _ => True) v H) (hB : Below base w0 W) (hbs : base ≤ W.heap.size) (hbb : base ≤ hb) (hxo : some xb ≠ v.ownBlock) (hl : (H.length + 1) * 32 ≤ 140737488355328) :
  Calls Try.prog 58 #[.pointer (some ⟨xb, 0, none⟩), .pointer (some ⟨hb, 0, none⟩)] W fun e W' =>
   (∃ v, e = .returned v) ∧ PutH w0 base hb (H ++ [x]) W' ∧ W.heap.size ≤ W'.heap.size ∧ ∀ c, c < W.heap.size → c ≠ hb → some c ≠ v.ownBlock → W'.heap[c]? = W.heap[c]? := by
 have hu47 := Try.underlying47
 have h0 := blk_cell hx 0
 have h1 := blk_cell hx 1
 have h2 := blk_cell hx 2
 have h3 := blk_cell hx 3
 have g0 := blk_cell hv 0
 have gf := blk_frozen hv 0
 simp only [List.getElem?_toArray, List.getElem?_cons_zero, List.getElem?_cons_succ] at h0 h1 h2 h3 g0
 have HR := Aside0.mk hR
 have HV := Aside0.mk hv
 have HB := Aside0.mk hB
 have HS := Aside0.mk hbs
 have HBB := Aside0.mk hbb
 have HL := Aside0.mk hl
 clear hR hv hB hx hbs hbb hl
 go_enter Try.func58, Try.ntmps58
 have HX0 := Aside0.mk hxo
 have hho := Kd.R_ne HR.out HV.out (by decide)
 have HLH := Aside0.mk (World.block_lt_of_cell? _ _ g0)
 have HLX := Aside0.mk (World.block_lt_of_cell? _ _ h0)
 have HHO := Aside0.mk hho
 have ga : (W.alloc (Obj.cells #[.int .i64 x.f0, .int .i64 x.f1, .int .i64 x.f2, .bool x.f3] 47)).cell? ⟨hb, 0, none⟩ = some v := ((below_alloc (Below.refl _ _) _).cell (p := ⟨hb, 0, none⟩) HLH.out).trans g0
 clear hho hxo
 go_region_law (refine Kd.R_append_step k47 (w0 := w0) (W := W.drew) base (by kernel_rfl) (.tmp 3) (.tmp 7) 43 47 (.agg #[.int .i64 0, .int .i64 0, .int .i64 0, .bool false]) 32 rfl Try.underlying43 info47 (by decide) (by decide) (by decide) v H x [.int .i64 x.f0, .int .i64 x.f1, .int .i64 x.f2, .bool x.f3] (fun _ => True) (fun _ => False) rfl rfl (k47_mkM _ _ _ x) (fun _ h => h.elim) (fun _ _ => trivial) (Kd.R_drew HR.out) (below_drew HB.out) (by simpa using HS.out) HL.out ?_; intro v1 w1 hR1 hB1 hg1 hat1; obtain ⟨A1, c1, rfl⟩ := Kd.R_slice hR1; have HE1 := Aside0.mk ((hg1.block hb HLH.out HHO.out).trans HV.out); have gf1 := blk_frozen HE1.out 0; have gc1 := blk_cell HE1.out 0; simp only [List.getElem?_toArray, List.getElem?_cons_zero, List.getElem?_cons_succ] at gc1; have HR1 := Aside0.mk hR1; have HB1 := Aside0.mk hB1; have HG1 := Aside0.mk hg1; clear hR1 hB1 hg1 hat1)
 all_goals
  go_end0
  have hsz : W.heap.size ≤ w1.heap.size := HG1.out.size
  have hsz2 := HS.out
  refine ⟨⟨_, rfl⟩, ⟨_, Boxed.set (.slice A1 (H.length + 1) c1) (show Boxed w1 hb 43 v from HE1.out), ?_, HB1.out.setCell (p := ⟨hb, 0, none⟩) HBB.out _, ?_⟩, ?_, fun c hc h1 h2 => ?_⟩
  ·have := Kd.R_set HR1.out HE1.out (by simp [k47_E]) 0 (.slice A1 (H.length + 1) c1)
   simpa using this
  ·simpa using Nat.le_trans hsz2 hsz
  ·simpa using hsz
  ·rw [Below.heap_setCell _ _ _ _ h1]
   exact HG1.out.block c hc h2
end Go.Proofs.Ytkclehmjkncmnaa.P
/- devices.State. -/
namespace Go.Proofs.Ytkclehmjkncmnaa.P
open Go.RowKit Go.Proofs.YtkclehmjkncmnaaW.PrintWords Go.Proofs.YtkclehmjkncmnaaW.PrintLast Go.Proofs.YtkclehmjkncmnaaW.PrintMore
set_option linter.unusedVariables false

theorem enters57 : ∀ args w, (callFunc 57 args).run Try.prog w = .ok (.enter 57 args) w := enters_ Try.func57 (by kernel_rfl) rfl
theorem enters58 : ∀ args w, (callFunc 58 args).run Try.prog w = .ok (.enter 58 args) w := enters_ Try.func58 (by kernel_rfl) rfl
theorem start_put (ks : List (Int × S47)) (k c first : Int) (h : S47) : startH (putH ks k h) c first = if c = k then h else startH ks c first := by
 unfold startH
 rw [getH_put]
 split <;> rfl
theorem hold_take {l : List S40} {n : Nat} (hn : n < l.length) (c first : Int) : holdH (l.take (n + 1)) c first = if c = (rd_T40 l n).f3 then stepH (holdH (l.take n) c first) (rd_T40 l n) else holdH (l.take n) c first := by
 have e : l.take (n + 1) = l.take n ++ [rd_T40 l n] := by
  rw [rd_at40 l n hn, List.take_add_one, List.getElem?_eq_getElem hn]
  rfl
 unfold holdH
 rw [e, List.filter_append, List.foldl_append]
 by_cases h : c = (rd_T40 l n).f3
 ·rw [if_pos h, List.filter_cons_of_pos (by simp [h])]
  rfl
 ·rw [if_neg h, List.filter_cons_of_neg (by simpa using Ne.symm h)]
  rfl
/-- What State keeps between two calls of its closure. -/
structure St (w : World) (bf bh bm mb : Nat) (first : Int) (H : List S47) (ks : List (Int × S47)) (W : World) : Prop where
 bx : Boxed W bf 3 (.int .i64 first)
 mp : Boxed W bm 88 (.map (some mb))
 mh : MapH W mb ks
 ph : PutH w w.heap.size bh H W
theorem MapH.not_cells {W : World} {mb b : Nat} {ks : List (Int × S47)} (h : MapH W mb ks) {cs : Array Value} {t : TypeId} {f : Nat × Nat} (hb : W.heap[b]? = some (.cells cs t f)) : b ≠ mb := by
 rintro rfl
 obtain ⟨es, clock, h1, _⟩ := h
 rw [h1] at hb
 cases hb
theorem MapH.lt {W : World} {mb : Nat} {ks : List (Int × S47)} (h : MapH W mb ks) : mb < W.heap.size := by
 obtain ⟨es, clock, h1, _⟩ := h
 exact (Array.getElem?_eq_some_iff.1 h1).1
theorem PutH.keep {w0 W W' : World} {base hb : Nat} {H : List S47} (h : PutH w0 base hb H W) (hk : ∀ (k : Nat) (cs : Array Value) (t : TypeId), W.heap[k]? = some (Obj.cells cs t (0, 0)) → W'.heap[k]? = W.heap[k]?) (hB : Below base w0 W') (hs : W.heap.size ≤ W'.heap.size) : PutH w0 base hb H W' := by
 obtain ⟨v, h1, h2, h3, h4⟩ := h
 refine ⟨v, (hk _ _ _ h1).trans h1, ?_, hB, Nat.le_trans h4 hs⟩
 refine Kd.R_mono (Kd.R_move (Kd.R_bound h2) (fun k hb => ?_)) (fun _ _ => trivial)
 obtain ⟨_, _, _, q, _, cells, e⟩ := hb
 exact hk k cells q e
theorem put_map_below {w W : World} {B mb : Nat} (h : Below B w W) (hb : B ≤ mb) (o : Obj) : Below B w (W.putObj mb o) := below_put h hb o
/-- The map's block and what is new alone have changed. -/
theorem St.step {w W W' : World} {bf bh bm mb : Nat} {first : Int} {H : List S47} {ks ks' : List (Int × S47)} (h : St w bf bh bm mb first H ks W) (hmb : w.heap.size ≤ mb) (hB : Below W.heap.size W W') (o : Obj) (hm : MapH (W'.putObj mb o) mb ks') : St w bf bh bm mb first H ks' (W'.putObj mb o) := by
 have hk : ∀ (k : Nat) (cs : Array Value) (t : TypeId), W.heap[k]? = some (Obj.cells cs t (0, 0)) → (W'.putObj mb o).heap[k]? = W.heap[k]? := fun k cs t hc => by
  have := h.mh.not_cells hc
  exact (World.putObj_heap_other this).trans (hB.block k (Array.getElem?_eq_some_iff.1 hc).1)
 have hs : W.heap.size ≤ (W'.putObj mb o).heap.size := by simpa using hB.size
 obtain ⟨v, h1, h2, h3, h4⟩ := h.ph
 exact ⟨(hk _ _ _ h.bx).trans h.bx, (hk _ _ _ h.mp).trans h.mp, hm, h.ph.keep hk (put_map_below (h3.trans (hB.mono h4)) hmb o) hs⟩
theorem St.alloc {w W : World} {bf bh bm mb : Nat} {first : Int} {H : List S47} {ks : List (Int × S47)} (h : St w bf bh bm mb first H ks W) (o : Obj) : St w bf bh bm mb first H ks (W.alloc o) := by
 have hB : Below W.heap.size W (W.alloc o) := below_alloc (Below.refl _ _) o
 obtain ⟨v, h1, h2, h3, h4⟩ := h.ph
 exact ⟨h.bx.alloc o, h.mp.alloc o, h.mh.below hB, h.ph.keep (fun k cs t hc => hB.block k (Array.getElem?_eq_some_iff.1 hc).1) (h3.trans (hB.mono h4)) hB.size⟩
/-- One operation's change. -/
theorem change57 {w W : World} {bf bh bm mb : Nat} {first : Int} {H : List S47} {ks : List (Int × S47)} (h : St w bf bh bm mb first H ks W) (hmb : w.heap.size ≤ mb) (o : S40) (ob : Nat) (ho : W.heap[ob]? = some (boxO o)) (h0 : 0 ≤ (startH ks o.f3 first).f2) (h1 : (startH ks o.f3 first).f2 ≤ 65536) :
  Calls Try.prog 56 #[.int .i64 o.f3, .func (.func 57) #[] #[.pointer (some ⟨ob, 0, none⟩)], .pointer (some ⟨bm, 0, none⟩), .pointer (some ⟨bf, 0, none⟩)] W fun e W' =>
   (∃ v, e = .returned v) ∧ St w bf bh bm mb first H (putH ks o.f3 (stepH (startH ks o.f3 first) o)) W' := by
 have hbm := h.mp.lt
 have hml := h.mh.lt
 have hob : ob < W.heap.size := (Array.getElem?_eq_some_iff.1 ho).1
 refine (change_calls 57 ⟨ob, 0, none⟩ bm bf mb first o.f3 ks (fun x => stepH x o) (fun W' => Below W.heap.size W W') W enters57 h.mp.cell h.mh h.bx.cell h.mp.lt h.bx.lt ?_).mono ?_
 ·intro W1 hB1 hz1 hb1
  refine (step_calls W.heap.size ob _ o W1 (by omega) hb1 ((hB1.block ob hob).trans ho) h0 h1).mono ?_
  rintro e W' ⟨hv, h1, h2, h3⟩
  exact ⟨hv, h1, h2 bm (by omega), h2 mb (by omega), hB1.trans h3⟩
 ·rintro e W' ⟨hv, W2, o2, hB2, rfl, hM⟩
  exact ⟨hv, h.step hmb hB2 o2 hM⟩
theorem change58 {w W : World} {bf bh bm mb : Nat} {first : Int} {H : List S47} {ks : List (Int × S47)} (h : St w bf bh bm mb first H ks W) (hmb : w.heap.size ≤ mb) (hbh : w.heap.size ≤ bh) (c : Int) (hl : (H.length + 1) * 32 ≤ 140737488355328) :
  Calls Try.prog 56 #[.int .i64 c, .func (.func 58) #[] #[.pointer (some ⟨bh, 0, none⟩)], .pointer (some ⟨bm, 0, none⟩), .pointer (some ⟨bf, 0, none⟩)] W fun e W' =>
   (∃ v, e = .returned v) ∧ St w bf bh bm mb first (H ++ [startH ks c first]) (putH ks c (startH ks c first)) W' := by
 have hbm := h.mp.lt
 have hml := h.mh.lt
 obtain ⟨v, p1, p2, p3, p4⟩ := h.ph
 have hbhl : bh < W.heap.size := (Array.getElem?_eq_some_iff.1 p1).1
 have hlt := Kd.R_lt p2
 have nbm : bm ≠ bh := by
  rintro rfl
  have e := (show W.heap[bm]? = _ from h.mp).symm.trans p1
  simp at e
 have nbf : bf ≠ bh := by
  rintro rfl
  have e := (show W.heap[bf]? = _ from h.bx).symm.trans p1
  simp at e
 have nmb := h.mh.not_cells p1
 have obm := Kd.R_ne p2 h.mp (by decide)
 have obf := Kd.R_ne p2 h.bx (by decide)
 have omb : some mb ≠ v.ownBlock := fun e => by
  obtain ⟨_, _, _, q, _, cells, e2⟩ := (Kd.R_bound p2).1 mb e.symm
  exact h.mh.not_cells e2 rfl
 refine (change_calls 58 ⟨bh, 0, none⟩ bm bf mb first c ks (fun x => x) (fun W' => PutH w w.heap.size bh (H ++ [startH ks c first]) W' ∧ Boxed W' bf 3 (.int .i64 first) ∧ Boxed W' bm 88 (.map (some mb)) ∧ MapH W' mb ks) W enters58 h.mp.cell h.mh h.bx.cell h.mp.lt h.bx.lt ?_).mono ?_
 ·intro W1 hB1 hz1 hb1
  refine (put_calls w w.heap.size W.heap.size bh (startH ks c first) H v W1 hb1 ((hB1.block bh hbhl).trans p1) (Kd.R_below p2 hB1) (p3.trans (hB1.mono p4)) (Nat.le_trans p4 hB1.size) hbh (fun e => by have := hlt _ e.symm; omega) hl).mono ?_
  rintro e W' ⟨hv, hP, hs, hk⟩
  refine ⟨hv, (hk _ (by omega) (by omega) (fun e => by have := hlt _ e.symm; omega)).trans hb1, hk bm (by omega) nbm obm, hk mb (by omega) (Ne.symm nmb) omb, hP, ?_, ?_, h.mh.at ((hk mb (by omega) (Ne.symm nmb) omb).trans (hB1.block mb hml))⟩
  ·exact (hk bf (by have := h.bx.lt; omega) nbf obf).trans ((hB1.block bf h.bx.lt).trans h.bx)
  ·exact (hk bm (by omega) nbm obm).trans ((hB1.block bm hbm).trans h.mp)
 ·rintro e W' ⟨hv, W2, o2, ⟨hP, hx, hm, hM2⟩, rfl, hM⟩
  have hk : ∀ (k : Nat) (cs : Array Value) (t : TypeId), W2.heap[k]? = some (Obj.cells cs t (0, 0)) → (W2.putObj mb o2).heap[k]? = W2.heap[k]? := fun k cs t hc => World.putObj_heap_other (hM2.not_cells hc)
  obtain ⟨_, _, _, q3, _⟩ := id hP
  exact ⟨hv, (hk _ _ _ hx).trans hx, (hk _ _ _ hm).trans hm, hM, hP.keep hk (put_map_below q3 hmb o2) (by simp)⟩
end Go.Proofs.Ytkclehmjkncmnaa.P
/- devices.State: the walk. -/
namespace Go.Proofs.Ytkclehmjkncmnaa.P
open Go.RowKit Go.Proofs.YtkclehmjkncmnaaW.PrintWords Go.Proofs.YtkclehmjkncmnaaW.PrintLast Go.Proofs.YtkclehmjkncmnaaW.PrintMore
set_option linter.unusedVariables false

theorem enters56 : ∀ args w, (callFunc 56 args).run Try.prog w = .ok (.enter 56 args) w := enters_ Try.func56 (by kernel_rfl) rfl
theorem in_calls (a b c : Int) (w : World) : Calls Try.prog 54 #[.int .i64 a, .int .i64 b, .int .i64 c] w fun e w' => e = .returned (.bool (inI a b c)) ∧ Drawn0 w w' := Q.devices_in.calls a b c _ w (in_ev a b c)
theorem isDev_calls (a : Int) (w : World) : Calls Try.prog 55 #[.int .i64 a] w fun e w' => e = .returned (.bool (isDev a)) ∧ Drawn0 w w' := Q.devices_isDevice.calls a _ w (isDev_ev a)
theorem results24 {tmps : Array Value} {W : World} {p6 : Addr} {A : Option Addr} {n c : Nat} {e : Int} (t6 : tmps.getD 6 undef = .pointer (some p6)) (t7 : tmps.getD 7 undef = .int .i64 e) (h : W.cell? p6 = some (.slice A n c)) :
  (results Try.f24 tmps).run Try.prog W = .ok (.tuple #[.slice A n c, .int .i64 e]) W := by
 have hr : Try.f24.results = #[.cell 6 43, .tmp 7] := by kernel_rfl
 have hu43 := Try.underlying43
 unfold results
 rw [hr]
 simp only [List.mapM_toArray, List.mapM_cons, List.mapM_nil]
 simp [go_sem, t6, t7, h, loadVar, asAddr]
theorem state_f {l : List S40} {a b : Int} {r1 : List S47} {r2 : Int} (h : stateV l a b = (r1, r2)) {x : List S47 × Int} (e : stateV l a b = x) : r1 = x.1 ∧ r2 = x.2 := by
 rw [h] at e
 exact ⟨congrArg Prod.fst e, congrArg Prod.snd e⟩
set_option maxHeartbeats 1000000 in
set_option maxRecDepth 100000 in
theorem devices_State.calls (A0 : Option Addr) (c0 : Nat) (l0 : List S40) (a1 a2 : Int) (r1 : List S47) (r2 : Int) (w : World) (hr0 : Kd.C k40 w A0 l0.length l0) (hc0 : l0.length ≤ c0) (h : devices_State.f l0 a1 a2 = some (r1, r2)) :
  Calls Try.prog 24 #[.slice A0 l0.length c0, .int .i64 a1, .int .i64 a2] w fun e w' => ∃ v0_ : Value, e = .returned (.tuple #[v0_, .int .i64 r2]) ∧ Kd.R k47 47 w' w.heap.size (fun _ => True) v0_ r1 ∧ Below w.heap.size w w' := by
 have HV := Aside0.mk (Option.some.inj h)
 have hu40 := Try.underlying40
 have hu43 := Try.underlying43
 have hu88 := Try.underlying88
 have HR := Aside0.mk hr0
 have HC := Aside0.mk hc0
 clear hr0 hc0 h
 cases hchk : chkD l0 with
 | false =>
  have HQ := Aside0.mk hchk
  go_enter Try.func24, Try.ntmps24
  go_wp2_with (go_at_call 29; (refine (devices_Check.calls _ _ l0 420 _ ?s1 HC.out ?s2).mono ?_); (case s1 => exact Kd.C_below HR.out (below_alloc (below_alloc (Below.refl _ _) _) _)); (case s2 => rw [devices_Check.f, HQ.out]; rfl); rintro e w1 ⟨rfl, hb1⟩; refine Aside0.out (p := _) ?_)
  refine ⟨?_⟩
  have hbx : Boxed w1 (w.heap.size + 1) 43 (.slice none 0 0) := (hb1.block _ (by simp)).trans (by have := Boxed.new (w.alloc (.cells #[.int .i64 a2] 3)) 43 (.slice none 0 0); rwa [World.size_alloc] at this)
  have g0 := hbx.cell
  have f0 := hbx.frozen
  have HB1 : Aside0 (Below w.heap.size w w1) := ⟨below2 (below_alloc (below_alloc (Below.refl _ _) _) _) hb1⟩
  have HBX := Aside0.mk hbx
  clear hb1 hbx
  go_wp2
  obtain ⟨rfl, rfl⟩ := state_f HV.out (show stateV l0 a1 a2 = ([], 420) by rw [stateV, HQ.out]; rfl)
  exact bodyPost_ret (results24 (p6 := ⟨w.heap.size + 1, 0, none⟩) rfl rfl (HBX.out.set _).cell) rfl ⟨_, rfl, Kd.R_nil _ _ _ _ _, HB1.out.setCell (p := ⟨w.heap.size + 1, 0, none⟩) (by show w.heap.size ≤ w.heap.size + 1; omega) _⟩
 | true =>
  have HQ := Aside0.mk hchk
  by_cases hg : inI a1 0 1024 = true ∧ isDev a2 = true
  ·obtain ⟨g1, g2⟩ := hg
   go_enter Try.func24, Try.ntmps24
   go_wp2_with (go_at_call 29; (refine (devices_Check.calls _ _ l0 0 _ ?s1 HC.out ?s2).mono ?_); (case s1 => exact Kd.C_below HR.out (below_alloc (below_alloc (Below.refl _ _) _) _)); (case s2 => rw [devices_Check.f, HQ.out]; rfl); rintro e w1 ⟨rfl, hb1⟩; refine Aside0.out (p := _) ?_)
   refine ⟨?_⟩
   have hbx : Boxed w1 (w.heap.size + 1) 43 (.slice none 0 0) := (hb1.block _ (by simp)).trans (by have := Boxed.new (w.alloc (.cells #[.int .i64 a2] 3)) 43 (.slice none 0 0); rwa [World.size_alloc] at this)
   have hby : Boxed w1 w.heap.size 3 (.int .i64 a2) := (hb1.block _ (by simp; omega)).trans ((Boxed.new w 3 (.int .i64 a2)).alloc _)
   have c0_ := hby.cell
   have HB1 : Aside0 (Below w.heap.size w w1) := ⟨below2 (below_alloc (below_alloc (Below.refl _ _) _) _) hb1⟩
   have HBX := Aside0.mk hbx
   have HBY := Aside0.mk hby
   clear hb1 hbx
   go_wp2_with (first | (go_at_call 54; (refine (in_calls _ _ _ _).mono ?_); rintro e w2 ⟨rfl, hd⟩; rw [g1]; have hc2 := (hd.below.cell (p := ⟨w.heap.size, 0, none⟩) HBY.out.lt).trans c0_; have HB2 := Aside0.mk (Below.trans (Below.refl w1.heap.size w1) hd.below); clear hd) | (go_at_call 55; (refine (isDev_calls _ _).mono ?_); rintro e w3 ⟨rfl, hd⟩; rw [g2]; have HB3 := Aside0.mk (below2 HB2.out hd.below); clear hd; refine Aside0.out (p := _) ?_))
   refine ⟨?_⟩
   have hb3 : Below w.heap.size w w3 := below2 HB1.out HB3.out
   have hx3 : Boxed w3 (w.heap.size + 1) 43 (.slice none 0 0) := (HB3.out.block _ HBX.out.lt).trans HBX.out
   have hy3 : Boxed w3 w.heap.size 3 (.int .i64 a2) := (HB3.out.block _ HBY.out.lt).trans HBY.out
   clear HB1 HB2 HB3 HBX HBY hby c0_ hc2
   have hmk : (Instr.makeMap 88 none).run Try.prog w3 = .ok (.map (some w3.heap.size)) (w3.alloc (.map #[] 0)) := by kernel_rfl
   have HB3 := Aside0.mk hb3
   have HX3 := Aside0.mk hx3
   have HY3 := Aside0.mk hy3
   have HG := Aside0.mk (And.intro g1 g2)
   clear hb3 hx3 hy3 g1 g2
   go_wp2
   clear hmk
   obtain ⟨W0, hW0⟩ : ∃ W0, (w3.alloc (.map #[] 0)).alloc (.cells #[.map (some w3.heap.size)] 88) = W0 := ⟨_, rfl⟩
   rw [hW0]
   have hB0 : Below w3.heap.size w3 W0 := by rw [← hW0]; exact below_alloc (below_alloc (Below.refl _ _) _) _
   have hSt : St w w.heap.size (w.heap.size + 1) (w3.heap.size + 1) w3.heap.size a2 [] [] W0 := by
    refine ⟨(hB0.block _ HY3.out.lt).trans HY3.out, ?_, ?_, ⟨.slice none 0 0, (hB0.block _ HX3.out.lt).trans HX3.out, Kd.R_nil _ _ _ _ _, HB3.out.trans (hB0.mono HB3.out.size), Nat.le_trans HB3.out.size hB0.size⟩⟩
    ·have := Boxed.new (w3.alloc (.map #[] 0)) 88 (.map (some w3.heap.size))
     rw [World.size_alloc, hW0] at this
     exact this
    ·have := (MapH.new w3).below (below_alloc (Below.refl _ _) (.cells #[.map (some w3.heap.size)] 88))
     rw [hW0] at this
     exact this
   have HST := Aside0.mk hSt
   have HM := Aside0.mk HB3.out.size
   clear hW0 hB0 hSt HX3 HY3
   have hop : ∀ o ∈ l0, opV o = true := (chkD_iff.1 HQ.out).op
   have HOP := Aside0.mk hop
   clear hop
   go_loopw [31] (fun v31 w' => ∃ n : Nat, v31 = .int .i64 n ∧ n ≤ l0.length ∧ Aside0 (∃ ks, St w w.heap.size (w.heap.size + 1) (w3.heap.size + 1) w3.heap.size a2 [] ks w' ∧ ∀ c, startH ks c a2 = holdH (l0.take n) c a2)) (fun v31 _ => l0.length - (intOf v31).toNat)
   case atStart => exact ⟨0, rfl, Nat.zero_le _, ⟨[], HST.out, fun c => rfl⟩⟩
   case round =>
    obtain ⟨n, rfl, hn, HK⟩ := hrel
    by_cases hlt : n < l0.length
    ·obtain ⟨ks, hst, hks⟩ := HK.out
     have hbr : Below w.heap.size w wr := by
      obtain ⟨_, _, _, q, _⟩ := hst.ph
      exact q
     have hlm : l0.length ≤ 9223372036854775807 := HR.out.2.1
     obtain ⟨ad, e1, g0, g1, g2, g3, g4, g5⟩ := at_T40 (Kd.C_below HR.out hbr) n (by omega) (by omega)
     cases e1
     simp only [Int.toNat_natCast] at g0 g1 g2 g3 g4 g5
     have hst2 := hst.alloc (.cells #[.int .i64 (rd_T40 l0 n).f0, .int .i64 (rd_T40 l0 n).f1, .int .i64 (rd_T40 l0 n).f2, .int .i64 (rd_T40 l0 n).f3, .int .i64 (rd_T40 l0 n).f4, .int .i64 (rd_T40 l0 n).f5] 40)
     have htk := hold_tok (c := (rd_T40 l0 n).f3) (first := a2) (fun o ho => HOP.out o (List.mem_of_mem_take ho) : ∀ o ∈ l0.take n, opV o = true)
     rw [← hks] at htk
     have hC := change57 hst2 HM.out (rd_T40 l0 n) wr.heap.size (World.alloc_heap_new _ _) htk.1 htk.2
     have HCC := Aside0.mk hC
     have HKS := Aside0.mk hks
     have HLT := Aside0.mk hlt
     clear hC hst hst2 hbr htk hks HK
     go_wp2_with (first | (go_at_call 56; refine HCC.out.mono ?_; rintro e w4 ⟨⟨v, rfl⟩, hst4⟩; have HS4 := Aside0.mk hst4; clear hst4))
     go_roundw
     case rel =>
      refine ⟨n + 1, by go_num, HLT.out, ⟨_, HS4.out, fun c => ?_⟩⟩
      rw [start_put, hold_take HLT.out, HKS.out, HKS.out]
      split
      ·rename_i e
       rw [e]
      ·rfl
     case measure => have := HLT.out; simp [intOf]; omega
    ·obtain ⟨ks0, hst, hks⟩ := HK.out
     obtain rfl : n = l0.length := by omega
     have hks1 : ∀ c, startH ks0 c a2 = holdH l0 c a2 := fun c => by rw [hks c, List.take_length]
     have HKS := Aside0.mk hks1
     have HS5 := Aside0.mk hst
     have hg1 := HG.out.1
     simp only [inI, Bool.and_eq_true, decide_eq_true_eq] at hg1
     have ha0 := hg1.1
     have ha1 := hg1.2
     clear hks hks1 hst HK HST hg1
     obtain ⟨m, rfl⟩ := Int.eq_ofNat_of_zero_le ha0
     have hm : m ≤ 1024 := by omega
     clear ha0 ha1
     go_wp2
     go_loopw [42] (fun v42 w' => ∃ n : Nat, v42 = .int .i64 n ∧ n ≤ m ∧ Aside0 (∃ ks, St w w.heap.size (w.heap.size + 1) (w3.heap.size + 1) w3.heap.size a2 ((List.range n).map fun c : Nat => holdH l0 c a2) ks w' ∧ ∀ c, startH ks c a2 = holdH l0 c a2)) (fun v42 _ => m - (intOf v42).toNat)
     case atStart => exact ⟨0, rfl, Nat.zero_le _, ⟨_, HS5.out, HKS.out⟩⟩
     case round =>
      obtain ⟨n, rfl, hn, HK⟩ := hrel
      by_cases hlt : n < m
      ·obtain ⟨ks, hst, hks⟩ := HK.out
       have hC := change58 hst HM.out (by omega) (n : Int) (by simp; omega)
       have HCC := Aside0.mk hC
       have HKS := Aside0.mk hks
       have HLT := Aside0.mk hlt
       have hdn : decide ((n : Int) < (m : Int)) = true := by simp; omega
       clear hC hst hks HK
       go_wp2_with (first | (go_at_call 56; refine HCC.out.mono ?_; rintro e w4 ⟨⟨v, rfl⟩, hst4⟩; have HS6 := Aside0.mk hst4; clear hst4))
       go_roundw
       case rel =>
        refine ⟨n + 1, by go_num, HLT.out, ⟨putH ks n (startH ks n a2), ?_, fun c => ?_⟩⟩
        ·have := HS6.out
         rw [List.range_succ, List.map_append, show ([n].map fun c : Nat => holdH l0 c a2) = [startH ks n a2] by rw [HKS.out]; rfl]
         exact this
        ·rw [start_put, HKS.out, HKS.out]
         split
         ·rename_i e
          rw [e]
         ·rfl
       case measure => have := HLT.out; simp [intOf]; omega
      ·obtain ⟨ks, hst, hks⟩ := HK.out
       obtain rfl : n = m := by omega
       obtain ⟨v, p1, p2, p3, p4⟩ := hst.ph
       obtain ⟨A1, c1, rfl⟩ := Kd.R_slice p2
       have hbx : Boxed wr (w.heap.size + 1) 43 (.slice A1 ((List.range n).map fun c : Nat => holdH l0 c a2).length c1) := p1
       have g0 := hbx.cell
       have f0 := hbx.frozen
       have HP1 := Aside0.mk hbx
       have HP2 := Aside0.mk p2
       have HP3 := Aside0.mk p3
       have hdn : decide ((n : Int) < (n : Int)) = false := by simp
       clear hst hks HK p1 p2 p3 p4 hbx
       simp only [List.length_map, List.length_range] at g0
       go_wp2
       obtain ⟨rfl, rfl⟩ := state_f HV.out (show stateV l0 n a2 = ((List.range n).map fun c : Nat => holdH l0 c a2, 0) by rw [stateV, HQ.out, HG.out.1, HG.out.2]; rfl)
       have hz := Kd.R_set HP2.out HP1.out (by simp [k47_E]) 0 (.slice A1 n c1)
       exact bodyPost_ret (results24 (p6 := ⟨w.heap.size + 1, 0, none⟩) rfl rfl (HP1.out.set _).cell) rfl ⟨_, rfl, by simpa using hz, HP3.out.setCell (p := ⟨w.heap.size + 1, 0, none⟩) (by show w.heap.size ≤ w.heap.size + 1; omega) _⟩
  ·have hsv : stateV l0 a1 a2 = ([], 1) := by
    rw [stateV, HQ.out, if_pos rfl]
    by_cases g1 : inI a1 0 1024 = true
    ·rw [if_pos g1, if_neg (fun g2 => hg ⟨g1, g2⟩)]
    ·rw [if_neg g1]
   have HSV := Aside0.mk hsv
   clear hsv
   go_enter Try.func24, Try.ntmps24
   go_wp2_with (go_at_call 29; (refine (devices_Check.calls _ _ l0 0 _ ?s1 HC.out ?s2).mono ?_); (case s1 => exact Kd.C_below HR.out (below_alloc (below_alloc (Below.refl _ _) _) _)); (case s2 => rw [devices_Check.f, HQ.out]; rfl); rintro e w1 ⟨rfl, hb1⟩; refine Aside0.out (p := _) ?_)
   refine ⟨?_⟩
   have hbx : Boxed w1 (w.heap.size + 1) 43 (.slice none 0 0) := (hb1.block _ (by simp)).trans (by have := Boxed.new (w.alloc (.cells #[.int .i64 a2] 3)) 43 (.slice none 0 0); rwa [World.size_alloc] at this)
   have hby : Boxed w1 w.heap.size 3 (.int .i64 a2) := (hb1.block _ (by simp; omega)).trans ((Boxed.new w 3 (.int .i64 a2)).alloc _)
   have c0_ := hby.cell
   have HB1 : Aside0 (Below w.heap.size w w1) := ⟨below2 (below_alloc (below_alloc (Below.refl _ _) _) _) hb1⟩
   have HBX := Aside0.mk hbx
   have HBY := Aside0.mk hby
   clear hb1 hbx
   cases g1 : inI a1 0 1024 with
   | true =>
    have g2 : isDev a2 = false := by
     cases g2 : isDev a2 with
     | false => rfl
     | true => exact absurd ⟨g1, g2⟩ hg
    clear hg
    go_wp2_with (first | (go_at_call 54; (refine (in_calls _ _ _ _).mono ?_); rintro e w2 ⟨rfl, hd⟩; rw [g1]; have hc2 := (hd.below.cell (p := ⟨w.heap.size, 0, none⟩) HBY.out.lt).trans c0_; have HB2 := Aside0.mk (Below.trans (Below.refl w1.heap.size w1) hd.below); clear hd) | (go_at_call 55; (refine (isDev_calls _ _).mono ?_); rintro e w3 ⟨rfl, hd⟩; rw [g2]; have HB3 := Aside0.mk (below2 HB2.out hd.below); clear hd; refine Aside0.out (p := _) ?_))
    refine ⟨?_⟩
    have hx3 : Boxed w3 (w.heap.size + 1) 43 (.slice none 0 0) := (HB3.out.block _ HBX.out.lt).trans HBX.out
    have g0 := hx3.cell
    have f0 := hx3.frozen
    have HX3 := Aside0.mk hx3
    clear hx3 hby c0_ hc2
    go_wp2
    obtain ⟨rfl, rfl⟩ := state_f HV.out HSV.out
    exact bodyPost_ret (results24 (p6 := ⟨w.heap.size + 1, 0, none⟩) rfl rfl (HX3.out.set _).cell) rfl ⟨_, rfl, Kd.R_nil _ _ _ _ _, (below2 HB1.out HB3.out).setCell (p := ⟨w.heap.size + 1, 0, none⟩) (by show w.heap.size ≤ w.heap.size + 1; omega) _⟩
   | false =>
    clear hg
    go_wp2_with (first | (go_at_call 54; (refine (in_calls _ _ _ _).mono ?_); rintro e w3 ⟨rfl, hd⟩; rw [g1]; have HB3 := Aside0.mk (Below.trans (Below.refl w1.heap.size w1) hd.below); clear hd; refine Aside0.out (p := _) ?_))
    refine ⟨?_⟩
    have hx3 : Boxed w3 (w.heap.size + 1) 43 (.slice none 0 0) := (HB3.out.block _ HBX.out.lt).trans HBX.out
    have g0 := hx3.cell
    have f0 := hx3.frozen
    have HX3 := Aside0.mk hx3
    clear hx3 hby c0_
    go_wp2
    obtain ⟨rfl, rfl⟩ := state_f HV.out HSV.out
    exact bodyPost_ret (results24 (p6 := ⟨w.heap.size + 1, 0, none⟩) rfl rfl (HX3.out.set _).cell) rfl ⟨_, rfl, Kd.R_nil _ _ _ _ _, (below2 HB1.out HB3.out).setCell (p := ⟨w.heap.size + 1, 0, none⟩) (by show w.heap.size ≤ w.heap.size + 1; omega) _⟩
end Go.Proofs.Ytkclehmjkncmnaa.P
