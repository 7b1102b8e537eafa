/- Several texts in one: G3, G4. -/
import Derived.Test.YtkclehmjkncmnaaGA
import Derived.Test.YtkclehmjkncmnaaQA
/- devices.valid, devices.compare: what they answer. -/
namespace Go.Proofs.Ytkclehmjkncmnaa.P
open Go.RowKit Go.Proofs.YtkclehmjkncmnaaW.PrintWords Go.Proofs.YtkclehmjkncmnaaW.PrintLast Go.Proofs.YtkclehmjkncmnaaW.PrintMore
set_option linter.unusedVariables false

theorem below2 {w w1 w2 : World} (h : Below w.heap.size w w1) (k : Below w1.heap.size w1 w2) : Below w.heap.size w w2 := h.trans (k.mono h.size)
theorem in_ev (a b c : Int) : Q.devices_in.f a b c = some (inI a b c) := by
 unfold Q.devices_in.f inI
 by_cases h : a ≥ b
 ·rw [if_pos h, decide_eq_true (show b ≤ a from h)]; rfl
 ·rw [if_neg h, decide_eq_false (show ¬ b ≤ a from h)]; rfl
theorem isDev_ev (a : Int) : Q.devices_isDevice.f a = some (isDev a) := by
 unfold Q.devices_isDevice.f
 rw [in_ev]; rfl
theorem valid_ev (o : S40) : Q.devices_valid.f 1 o.f0 o.f1 o.f2 o.f3 o.f4 o.f5 = some (opV o) := by
 unfold Q.devices_valid.f
 simp only [Q.devices_valid.j0, isDev_ev, in_ev, Option.bind_some, opV]
 by_cases h1 : o.f2 = 1
 ·have h2 : ¬ o.f2 = 2 := by omega
  simp only [h1, if_true, decide_true, Bool.true_and]
  cases isDev o.f4 <;> cases isDev o.f0 <;> cases inI o.f1 1 65536 <;> cases inI o.f3 0 1023 <;> cases inI o.f5 1 65536 <;> simp
 ·by_cases h2 : o.f2 = 2
  ·by_cases h4 : o.f4 = 0 <;> simp [h2, h4] <;> cases isDev o.f0 <;> cases inI o.f1 1 65536 <;> cases inI o.f3 0 1023 <;> cases inI o.f5 1 65536 <;> simp
  ·simp [h1, h2]
theorem valid_calls (o : S40) (w : World) :
  Calls Try.prog 64 #[.agg #[.int .i64 o.f0, .int .i64 o.f1, .int .i64 o.f2, .int .i64 o.f3, .int .i64 o.f4, .int .i64 o.f5]] w fun e w' => e = .returned (.bool (opV o)) ∧ Below w.heap.size w w' :=
 Q.devices_valid.calls 1 _ _ _ _ _ _ _ w (valid_ev o)
theorem nan_ev (a : Int) : Q.cmp_isNaN_int.f a = some false := by simp [Q.cmp_isNaN_int.f]
theorem cmp_ev (a b : Int) : Q.cmp_Compare_int.f a b = some (if a < b then -1 else if b < a then 1 else 0) := by
 unfold Q.cmp_Compare_int.f
 simp only [nan_ev, Option.bind_some, Bool.false_eq_true, if_false, gt_iff_lt]
 split <;> (try rfl)
 split <;> rfl
theorem slcmp_ev : ∀ (n : Nat) (xs ys : List Int) (i : Nat), xs.length = ys.length → xs.length ≤ 1000 → i + n = xs.length →
  Q.slices_Compare_int_int.l0 (n + 1) xs ys xs (xs.length : Int) (i : Int) = some (cmpL (xs.drop i) (ys.drop i)) := by
 intro n
 induction n with
 | zero =>
  intro xs ys i h hl hi
  unfold Q.slices_Compare_int_int.l0
  rw [if_neg (by omega), if_neg (by omega), List.drop_of_length_le (by omega)]
  rfl
 | succ n ih =>
  intro xs ys i h hl hi
  have e1 : xs.drop i = rd xs i :: xs.drop (i + 1) := by
   rw [List.drop_eq_getElem_cons (by omega)]
   simp [rd, List.getD_eq_getElem?_getD, List.getElem?_eq_getElem (show i < xs.length by omega)]
  have e2 : ys.drop i = rd ys i :: ys.drop (i + 1) := by
   rw [List.drop_eq_getElem_cons (by omega)]
   simp [rd, List.getD_eq_getElem?_getD, List.getElem?_eq_getElem (show i < ys.length by omega)]
  unfold Q.slices_Compare_int_int.l0
  rw [if_pos (by omega), if_pos (by omega), if_pos (by omega), if_neg (by omega), if_pos (by omega), cmp_ev, Option.bind_some, e1, e2]
  have hw : wrap64 ((i : Int) + 1) = ((i + 1 : Nat) : Int) := by unfold wrap64; omega
  simp only [cmpL]
  by_cases h1 : rd xs i < rd ys i
  ·simp [h1]
  ·by_cases h2 : rd ys i < rd xs i
   ·simp [h1, h2]
   ·simp only [h1, h2, if_false, if_true, hw]
    exact ih xs ys (i + 1) h hl (by omega)
theorem slcmp_calls (a b : S40) (A0 : Option Addr) (c0 : Nat) (A1 : Option Addr) (c1 : Nat) (w : World) (hr0 : Kd.C (Kd.int .i64) w A0 (nums a).length (nums a)) (hc0 : (nums a).length ≤ c0) (hr1 : Kd.C (Kd.int .i64) w A1 (nums b).length (nums b)) (hc1 : (nums b).length ≤ c1) :
  Calls Try.prog 89 #[.slice A0 (nums a).length c0, .slice A1 (nums b).length c1] w fun e w' => e = .returned (.int .i64 (cmpO a b)) ∧ Drawn0 w w' :=
 Q.slices_Compare_int_int.calls 7 A0 c0 (nums a) A1 c1 (nums b) _ w hr0 hc0 hr1 hc1 (slcmp_ev 6 (nums a) (nums b) 0 rfl (show 6 ≤ 1000 by decide) rfl)
theorem nums_calls (o : S40) (w : World) :
  Calls Try.prog 83 #[.agg #[.int .i64 o.f0, .int .i64 o.f1, .int .i64 o.f2, .int .i64 o.f3, .int .i64 o.f4, .int .i64 o.f5]] w fun e w' => ∃ v0_ : Value, e = .returned (v0_) ∧ Kd.R (Kd.int .i64) 3 w' w.heap.size (fun _ => True) v0_ (nums o) ∧ Below w.heap.size w w' :=
 devices_compare1.calls _ _ _ _ _ _ _ w rfl
def s40v (o : S40) : Value := .agg #[.int .i64 o.f0, .int .i64 o.f1, .int .i64 o.f2, .int .i64 o.f3, .int .i64 o.f4, .int .i64 o.f5]
set_option maxHeartbeats 4000000 in
set_option maxRecDepth 100000 in
theorem order_calls (a b : S40) (w : World) :
  Calls Try.prog 82 #[.agg #[.int .i64 a.f0, .int .i64 a.f1, .int .i64 a.f2, .int .i64 a.f3, .int .i64 a.f4, .int .i64 a.f5], .agg #[.int .i64 b.f0, .int .i64 b.f1, .int .i64 b.f2, .int .i64 b.f3, .int .i64 b.f4, .int .i64 b.f5], .func (.func 83) #[] #[]] w fun e w' => e = .returned (.int .i64 (cmpO a b)) ∧ Below w.heap.size w w' := by
 have hu40 := Try.underlying40
 go_enter Try.func82, Try.ntmps82
 go_wp2
 obtain ⟨W0, hW0⟩ : ∃ W0, ((w.alloc (Obj.cells #[Value.int IntKind.i64 a.f0, Value.int IntKind.i64 a.f1, Value.int IntKind.i64 a.f2, Value.int IntKind.i64 a.f3, Value.int IntKind.i64 a.f4, Value.int IntKind.i64 a.f5] 40)).alloc (Obj.cells #[Value.int IntKind.i64 b.f0, Value.int IntKind.i64 b.f1, Value.int IntKind.i64 b.f2, Value.int IntKind.i64 b.f3, Value.int IntKind.i64 b.f4, Value.int IntKind.i64 b.f5] 40)) = W0 := ⟨_, rfl⟩
 rw [hW0]
 have hB : Below w.heap.size w W0 := by rw [← hW0]; exact below_alloc (below_alloc (Below.refl _ _) _) _
 have hz : W0.heap.size = w.heap.size + 2 := by rw [← hW0]; simp
 have ha0 : W0.cell? ⟨w.heap.size, 0, none⟩ = some (.int .i64 a.f0) := by rw [← hW0]; simp
 have ha1 : W0.cell? ⟨w.heap.size, 1, none⟩ = some (.int .i64 a.f1) := by rw [← hW0]; simp
 have ha2 : W0.cell? ⟨w.heap.size, 2, none⟩ = some (.int .i64 a.f2) := by rw [← hW0]; simp
 have ha3 : W0.cell? ⟨w.heap.size, 3, none⟩ = some (.int .i64 a.f3) := by rw [← hW0]; simp
 have ha4 : W0.cell? ⟨w.heap.size, 4, none⟩ = some (.int .i64 a.f4) := by rw [← hW0]; simp
 have ha5 : W0.cell? ⟨w.heap.size, 5, none⟩ = some (.int .i64 a.f5) := by rw [← hW0]; simp
 have hb0 : W0.cell? ⟨w.heap.size + 1, 0, none⟩ = some (.int .i64 b.f0) := by rw [← hW0]; simp
 have hb1 : W0.cell? ⟨w.heap.size + 1, 1, none⟩ = some (.int .i64 b.f1) := by rw [← hW0]; simp
 have hb2 : W0.cell? ⟨w.heap.size + 1, 2, none⟩ = some (.int .i64 b.f2) := by rw [← hW0]; simp
 have hb3 : W0.cell? ⟨w.heap.size + 1, 3, none⟩ = some (.int .i64 b.f3) := by rw [← hW0]; simp
 have hb4 : W0.cell? ⟨w.heap.size + 1, 4, none⟩ = some (.int .i64 b.f4) := by rw [← hW0]; simp
 have hb5 : W0.cell? ⟨w.heap.size + 1, 5, none⟩ = some (.int .i64 b.f5) := by rw [← hW0]; simp
 clear hW0
 have HZ := Aside0.mk hz
 have HBC : Aside0 (Below W0.heap.size W0 W0) := ⟨Below.refl _ _⟩
 go_region_held3 (fun W => W.cell? ⟨w.heap.size, 0, none⟩ = some (.int .i64 a.f0) ∧ W.cell? ⟨w.heap.size, 1, none⟩ = some (.int .i64 a.f1) ∧ W.cell? ⟨w.heap.size, 2, none⟩ = some (.int .i64 a.f2) ∧ W.cell? ⟨w.heap.size, 3, none⟩ = some (.int .i64 a.f3) ∧ W.cell? ⟨w.heap.size, 4, none⟩ = some (.int .i64 a.f4) ∧ W.cell? ⟨w.heap.size, 5, none⟩ = some (.int .i64 a.f5) ∧ W.cell? ⟨w.heap.size + 1, 0, none⟩ = some (.int .i64 b.f0) ∧ W.cell? ⟨w.heap.size + 1, 1, none⟩ = some (.int .i64 b.f1) ∧ W.cell? ⟨w.heap.size + 1, 2, none⟩ = some (.int .i64 b.f2) ∧ W.cell? ⟨w.heap.size + 1, 3, none⟩ = some (.int .i64 b.f3) ∧ W.cell? ⟨w.heap.size + 1, 4, none⟩ = some (.int .i64 b.f4) ∧ W.cell? ⟨w.heap.size + 1, 5, none⟩ = some (.int .i64 b.f5)) (first | exact ⟨ha0, ha1, ha2, ha3, ha4, ha5, hb0, hb1, hb2, hb3, hb4, hb5⟩ | (simp only [World.drew_cell?]; exact ⟨ha0, ha1, ha2, ha3, ha4, ha5, hb0, hb1, hb2, hb3, hb4, hb5⟩) | exact ⟨(HBC.out.cell (p := ⟨w.heap.size, 0, none⟩) (by show w.heap.size < _; omega)).trans ha0, (HBC.out.cell (p := ⟨w.heap.size, 1, none⟩) (by show w.heap.size < _; omega)).trans ha1, (HBC.out.cell (p := ⟨w.heap.size, 2, none⟩) (by show w.heap.size < _; omega)).trans ha2, (HBC.out.cell (p := ⟨w.heap.size, 3, none⟩) (by show w.heap.size < _; omega)).trans ha3, (HBC.out.cell (p := ⟨w.heap.size, 4, none⟩) (by show w.heap.size < _; omega)).trans ha4, (HBC.out.cell (p := ⟨w.heap.size, 5, none⟩) (by show w.heap.size < _; omega)).trans ha5, (HBC.out.cell (p := ⟨w.heap.size + 1, 0, none⟩) (by show w.heap.size + 1 < _; omega)).trans hb0, (HBC.out.cell (p := ⟨w.heap.size + 1, 1, none⟩) (by show w.heap.size + 1 < _; omega)).trans hb1, (HBC.out.cell (p := ⟨w.heap.size + 1, 2, none⟩) (by show w.heap.size + 1 < _; omega)).trans hb2, (HBC.out.cell (p := ⟨w.heap.size + 1, 3, none⟩) (by show w.heap.size + 1 < _; omega)).trans hb3, (HBC.out.cell (p := ⟨w.heap.size + 1, 4, none⟩) (by show w.heap.size + 1 < _; omega)).trans hb4, (HBC.out.cell (p := ⟨w.heap.size + 1, 5, none⟩) (by show w.heap.size + 1 < _; omega)).trans hb5⟩)
  ((first
   | (go_at_call 83; (with_reducible refine (nums_calls a _).mono ?_); rintro e w1 ⟨v, rfl, hR1, hb1⟩; clear HBC; have HBC : Aside0 (Below W0.heap.size W0 w1) := ⟨below2 (below_drew1 (Below.refl _ _)) hb1⟩; clear hb1; obtain ⟨A1, c1, rfl⟩ := Kd.R_slice hR1; have HR1 := Aside0.mk hR1; clear hR1)
   | (go_at_call 83; (with_reducible refine (nums_calls b _).mono ?_); rintro e w2 ⟨v, rfl, hR2, hb2⟩; have HB2 : Aside0 (Below W0.heap.size W0 w2) := ⟨below2 HBC.out hb2⟩; clear HBC; have HBC := HB2; clear HB2; obtain ⟨A2, c2, rfl⟩ := Kd.R_slice hR2; have HR2 := Aside0.mk hR2; have HR12 := Aside0.mk (Kd.C_below (Kd.R_reads' HR1.out).2.2 hb2); clear hR2 hb2)
   | (go_at_call 89; (with_reducible refine (slcmp_calls a b _ _ _ _ _ HR12.out (Kd.R_reads' HR1.out).2.1 (Kd.R_reads' HR2.out).2.2 (Kd.R_reads' HR2.out).2.1).mono ?_); rintro e w3 ⟨rfl, hb3⟩; have HB4 : Aside0 (Below W0.heap.size W0 w3) := ⟨below2 HBC.out hb3.below⟩; clear HBC hb3; have HBC := HB4; clear HB4)))
 go_wp2
 go_ret
 exact ⟨rfl, hB.trans (HBC.out.mono (by omega))⟩
set_option maxHeartbeats 4000000 in
set_option maxRecDepth 100000 in
theorem compare_calls (a b : S40) (w : World) :
  Calls Try.prog 65 #[.agg #[.int .i64 a.f0, .int .i64 a.f1, .int .i64 a.f2, .int .i64 a.f3, .int .i64 a.f4, .int .i64 a.f5], .agg #[.int .i64 b.f0, .int .i64 b.f1, .int .i64 b.f2, .int .i64 b.f3, .int .i64 b.f4, .int .i64 b.f5]] w fun e w' => e = .returned (.int .i64 (cmpO a b)) ∧ Below w.heap.size w w' := by
 have hu40 := Try.underlying40
 go_enter Try.func65, Try.ntmps65
 go_wp2_with (go_at_call 82; (with_reducible refine (order_calls a b _).mono ?_); rintro e w1 ⟨rfl, hb1⟩)
 go_ret
 exact ⟨rfl, (below_alloc (below_alloc (Below.refl _ _) _) _).trans (hb1.mono (by simp; omega))⟩
end Go.Proofs.Ytkclehmjkncmnaa.P
/- devices.Check. -/
namespace Go.Proofs.Ytkclehmjkncmnaa.P
open Go.RowKit Go.Proofs.YtkclehmjkncmnaaW.PrintWords Go.Proofs.YtkclehmjkncmnaaW.PrintLast Go.Proofs.YtkclehmjkncmnaaW.PrintMore
set_option linter.unusedVariables false

def keyOf (o : S40) : Int × Int := (o.f0, o.f1)
theorem below_put {B b : Nat} {a w : World} (h : Below B a w) (hb : B ≤ b) (o : Obj) : Below B a (w.putObj b o) :=
 h.trans ⟨rfl, rfl, rfl, by simp, fun k hk => World.putObj_heap_other (by omega)⟩
theorem any_key (l : List S40) (o : S40) : l.any (sameKey o) = decide (keyOf o ∈ l.map keyOf) := by
 induction l with
 | nil => simp
 | cons x l ih =>
  simp only [List.any_cons, ih, List.map_cons, List.mem_cons, sameKey]
  by_cases h : keyOf o = keyOf x
  ·have h1 : o.f0 = x.f0 := congrArg Prod.fst h
   have h2 : o.f1 = x.f1 := congrArg Prod.snd h
   simp [h, h1, h2]
  ·have : (decide (o.f0 = x.f0) && decide (o.f1 = x.f1)) = false := by
    rw [← Bool.not_eq_true]
    intro h2
    simp only [Bool.and_eq_true, decide_eq_true_eq] at h2
    exact h (Prod.ext h2.1 h2.2)
   simp [h, this]
theorem quiet_mk {P : Program} {o : Oper} {a : Act} {C : World → Prop} {K : Act → Prop} (v : Value) (h1 : ∀ w, C w → o.quietAt P a C w v) (h2 : K (a.put o.dst v)) : o.quiet P a C K := ⟨v, h1, h2⟩
theorem opAt1 {l : List S40} {n : Nat} (h : opV (rd_T40 l n) = false) : opAtOk l n = false := by simp [opAtOk, h]
theorem opAt2 {l : List S40} {n : Nat} (h : (l.take n).any (sameKey (rd_T40 l n)) = true) : opAtOk l n = false := by
 unfold opAtOk
 rw [h]
 simp
theorem opAt3 {l : List S40} {n : Nat} (h : decide (n = 0) = false) (h2 : decide (cmpO (rd_T40 l ((n - 1 : Nat) : Int)) (rd_T40 l n) < 0) = false) : opAtOk l n = false := by
 unfold opAtOk
 rw [h, h2]
 simp
theorem opAt4 {l : List S40} {n : Nat} (h0 : opV (rd_T40 l n) = true) (h1 : (l.take n).any (sameKey (rd_T40 l n)) = false) (h2 : (decide (n = 0) || decide (cmpO (rd_T40 l ((n - 1 : Nat) : Int)) (rd_T40 l n) < 0)) = true) : opAtOk l n = true := by
 unfold opAtOk
 rw [h0, h1, h2]
 rfl
theorem chkD_true {l : List S40} {n : Nat} (h1 : decide (l.length ≤ 256) = true) (h : ∀ j : Nat, j < n → opAtOk l j = true) (hn : l.length ≤ n) : chkD l = true := by
 have : (List.range l.length).all (opAtOk l) = true := by
  rw [List.all_eq_true]
  intro j hj
  exact h j (Nat.lt_of_lt_of_le (List.mem_range.1 hj) hn)
 simp [chkD, this, of_decide_eq_true h1]
theorem opAt5 {l : List S40} {n m : Nat} (hm : n = m + 1) (h2 : ¬ cmpO (rd_T40 l m) (rd_T40 l n) < 0) : opAtOk l n = false := by
 subst hm
 exact opAt3 (by simp) (decide_eq_false h2)
theorem opAt6 {l : List S40} {n m : Nat} (h0 : opV (rd_T40 l n) = true) (h1 : (l.take n).any (sameKey (rd_T40 l n)) = false) (hm : n = m + 1) (h2 : cmpO (rd_T40 l m) (rd_T40 l n) < 0) : opAtOk l n = true := by
 subst hm
 exact opAt4 h0 h1 (by rw [show m + 1 - 1 = m from rfl, decide_eq_true h2, Bool.or_true])
theorem take_key {W : World} {b : Nat} {l : List S40} {n : Nat} (hn : n < l.length) (h : MapK W b ((l.take n).map keyOf ++ [keyOf (rd_T40 l n)])) : MapK W b ((l.take (n + 1)).map keyOf) := by
 have : l.take (n + 1) = l.take n ++ [rd_T40 l n] := by
  rw [List.take_add_one, List.getElem?_eq_getElem hn]
  simp [rd_T40, List.getElem?_eq_getElem hn]
 rw [this, List.map_append]
 exact h
theorem chkD_false {l : List S40} {n : Nat} (hn : n < l.length) (h : opAtOk l n = false) : chkD l = false := by
 have : (List.range l.length).all (opAtOk l) = false := by
  rw [List.all_eq_false]
  exact ⟨n, by simpa using hn, by simp [h]⟩
 simp [chkD, this]
set_option maxHeartbeats 1000000 in
set_option maxRecDepth 100000 in
theorem devices_Check.calls (A0 : Option Addr) (c0 : Nat) (l0 : List S40) (r : Int) (w : World) (hr0 : Kd.C k40 w A0 l0.length l0) (hc0 : l0.length ≤ c0) (h : devices_Check.f l0 = some r) :
  Calls Try.prog 29 #[.slice A0 l0.length c0] w fun e w' => e = .returned (.int .i64 r) ∧ Below w.heap.size w w' := by
 have HV := Aside0.mk (Option.some.inj h)
 have hu40 := Try.underlying40
 have hu99 := Try.underlying99
 have HR := Aside0.mk hr0
 have HC := Aside0.mk hc0
 clear hr0 hc0 h
 by_cases c1 : l0.length ≤ 256
 ·have d1 : decide ((256 : Int) < (l0.length : Int)) = false := decide_eq_false (by omega)
  have E1 := Aside0.mk (decide_eq_true c1)
  have hmk : (Instr.makeMap 97 none).run Try.prog w = .ok (.map (some w.heap.size)) (w.alloc (.map #[] 0)) := by kernel_rfl
  go_enter Try.func29, Try.ntmps29
  go_wp2
  clear hmk
  obtain ⟨W0, hW0⟩ : ∃ W0, w.alloc (.map #[] 0) = W0 := ⟨_, rfl⟩
  rw [hW0]
  have HB0 : Aside0 (Below w.heap.size w W0) := ⟨by rw [← hW0]; exact below_alloc (Below.refl _ _) _⟩
  have HM0 : Aside0 (MapK W0 w.heap.size []) := ⟨by rw [← hW0]; exact MapK.new w⟩
  have HZ0 : Aside0 (w.heap.size < W0.heap.size) := ⟨by rw [← hW0]; simp⟩
  clear hW0
  go_loopw [13] (fun v13 w' => ∃ n : Nat, v13 = .int .i64 n ∧ n ≤ l0.length ∧ Aside0 (∀ j : Nat, j < n → opAtOk l0 j = true) ∧ Aside0 (MapK w' w.heap.size ((l0.take n).map keyOf)) ∧ Aside0 (Below w.heap.size w w') ∧ Aside0 (w.heap.size < w'.heap.size)) (fun v13 _ => l0.length - (intOf v13).toNat)
  case atStart => exact ⟨0, rfl, Nat.zero_le _, ⟨fun j hj => absurd hj (by omega)⟩, ⟨by simpa using HM0.out⟩, HB0, HZ0⟩
  case round =>
   obtain ⟨n, rfl, hn, HN, HM, HB, HZ⟩ := hrel
   by_cases hlt : n < l0.length
   ·obtain ⟨ad, e1, g0, g1, g2, g3, g4, g5⟩ := at_T40 (Kd.C_below HR.out HB.out) n (by omega) (by omega)
    cases e1
    simp only [Int.toNat_natCast] at g0 g1 g2 g3 g4 g5
    go_upto_region 8 with (fail)
    have HSZ : Aside0 (w.heap.size ≤ ((wr.alloc (Obj.cells #[Value.int IntKind.i64 (rd_T40 l0 n).f0, Value.int IntKind.i64 (rd_T40 l0 n).f1, Value.int IntKind.i64 (rd_T40 l0 n).f2, Value.int IntKind.i64 (rd_T40 l0 n).f3, Value.int IntKind.i64 (rd_T40 l0 n).f4, Value.int IntKind.i64 (rd_T40 l0 n).f5] 40)).alloc (Obj.cells #[Value.int IntKind.i64 (rd_T40 l0 n).f0, Value.int IntKind.i64 (rd_T40 l0 n).f1] 99)).heap.size) := ⟨by have := HZ.out; simp; omega⟩
    obtain ⟨W1, hW1⟩ : ∃ W1, ((wr.alloc (Obj.cells #[Value.int IntKind.i64 (rd_T40 l0 n).f0, Value.int IntKind.i64 (rd_T40 l0 n).f1, Value.int IntKind.i64 (rd_T40 l0 n).f2, Value.int IntKind.i64 (rd_T40 l0 n).f3, Value.int IntKind.i64 (rd_T40 l0 n).f4, Value.int IntKind.i64 (rd_T40 l0 n).f5] 40)).alloc (Obj.cells #[Value.int IntKind.i64 (rd_T40 l0 n).f0, Value.int IntKind.i64 (rd_T40 l0 n).f1] 99)) = W1 := ⟨_, rfl⟩
    rw [hW1] at HSZ ⊢
    have hz1 : W1.heap.size = wr.heap.size + 2 := by rw [← hW1]; simp
    have hBr : Below wr.heap.size wr W1 := by rw [← hW1]; exact below_alloc (below_alloc (Below.refl _ _) _) _
    have HBW : Aside0 (Below w.heap.size w W1) := ⟨HB.out.trans (hBr.mono HB.out.size)⟩
    have hcs : W1.cell? ⟨wr.heap.size, 0, none⟩ = some (.int .i64 (rd_T40 l0 n).f0) ∧ W1.cell? ⟨wr.heap.size, 1, none⟩ = some (.int .i64 (rd_T40 l0 n).f1) ∧ W1.cell? ⟨wr.heap.size, 2, none⟩ = some (.int .i64 (rd_T40 l0 n).f2) ∧ W1.cell? ⟨wr.heap.size, 3, none⟩ = some (.int .i64 (rd_T40 l0 n).f3) ∧ W1.cell? ⟨wr.heap.size, 4, none⟩ = some (.int .i64 (rd_T40 l0 n).f4) ∧ W1.cell? ⟨wr.heap.size, 5, none⟩ = some (.int .i64 (rd_T40 l0 n).f5) ∧ W1.cell? ⟨wr.heap.size + 1, 0, none⟩ = some (.int .i64 (rd_T40 l0 n).f0) ∧ W1.cell? ⟨wr.heap.size + 1, 1, none⟩ = some (.int .i64 (rd_T40 l0 n).f1) := by rw [← hW1]; simp
    have HM1 : Aside0 (MapK W1 w.heap.size ((l0.take n).map keyOf)) := ⟨HM.out.below (hBr.mono (Nat.le_refl _))⟩
    clear hW1
    obtain ⟨met, hmet⟩ : ∃ b, decide (keyOf (rd_T40 l0 n) ∈ (l0.take n).map keyOf) = b := ⟨_, rfl⟩
    have HS : Aside0 (∀ W, Below W1.heap.size W1 W → W.cell? ⟨wr.heap.size, 0, none⟩ = some (.int .i64 (rd_T40 l0 n).f0) ∧ W.cell? ⟨wr.heap.size, 1, none⟩ = some (.int .i64 (rd_T40 l0 n).f1) ∧ W.cell? ⟨wr.heap.size, 2, none⟩ = some (.int .i64 (rd_T40 l0 n).f2) ∧ W.cell? ⟨wr.heap.size, 3, none⟩ = some (.int .i64 (rd_T40 l0 n).f3) ∧ W.cell? ⟨wr.heap.size, 4, none⟩ = some (.int .i64 (rd_T40 l0 n).f4) ∧ W.cell? ⟨wr.heap.size, 5, none⟩ = some (.int .i64 (rd_T40 l0 n).f5) ∧ W.cell? ⟨wr.heap.size + 1, 0, none⟩ = some (.int .i64 (rd_T40 l0 n).f0) ∧ W.cell? ⟨wr.heap.size + 1, 1, none⟩ = some (.int .i64 (rd_T40 l0 n).f1) ∧ (Instr.lookup 97 (.map (some w.heap.size)) (.agg #[.int .i64 (rd_T40 l0 n).f0, .int .i64 (rd_T40 l0 n).f1]) false).run Try.prog W = .ok (.bool met) W) := by
     refine ⟨fun W hB => ?_⟩
     obtain ⟨a0, a1, a2, a3, a4, a5, b0, b1⟩ := hcs
     refine ⟨(hB.cell (p := ⟨wr.heap.size, 0, none⟩) (by show wr.heap.size < _; omega)).trans a0, (hB.cell (p := ⟨wr.heap.size, 1, none⟩) (by show wr.heap.size < _; omega)).trans a1, (hB.cell (p := ⟨wr.heap.size, 2, none⟩) (by show wr.heap.size < _; omega)).trans a2, (hB.cell (p := ⟨wr.heap.size, 3, none⟩) (by show wr.heap.size < _; omega)).trans a3, (hB.cell (p := ⟨wr.heap.size, 4, none⟩) (by show wr.heap.size < _; omega)).trans a4, (hB.cell (p := ⟨wr.heap.size, 5, none⟩) (by show wr.heap.size < _; omega)).trans a5, (hB.cell (p := ⟨wr.heap.size + 1, 0, none⟩) (by show wr.heap.size + 1 < _; omega)).trans b0, (hB.cell (p := ⟨wr.heap.size + 1, 1, none⟩) (by show wr.heap.size + 1 < _; omega)).trans b1, ?_⟩
     rw [← hmet]
     exact look99 (HM1.out.below hB) (keyOf (rd_T40 l0 n))
    have HBC : Aside0 (Below W1.heap.size W1 W1) := ⟨Below.refl _ _⟩
    have hMT : (l0.take n).any (sameKey (rd_T40 l0 n)) = met := by rw [← hmet, any_key]
    have HMT := Aside0.mk hMT
    have HZ1 := Aside0.mk hz1
    clear hmet hcs hMT hz1 hBr HM g0 g1 g2 g3 g4 g5
    cases hv : opV (rd_T40 l0 n)
    ·have HQ := Aside0.mk hv
     refine wp_region_quiet (C := fun W => Below W1.heap.size W1 W) (by kernel_rfl) (by kernel_rfl) (below_drew1 (Below.refl _ _)) ?_
     with_reducible refine BigFrame.wpQuiet_want ?gd (fun K hK => ?_)
     case gd => kernel_rfl
     with_reducible refine quiet_mk (.agg #[.int .i64 (rd_T40 l0 n).f0, .int .i64 (rd_T40 l0 n).f1, .int .i64 (rd_T40 l0 n).f2, .int .i64 (rd_T40 l0 n).f3, .int .i64 (rd_T40 l0 n).f4, .int .i64 (rd_T40 l0 n).f5]) (fun W hW => ?_) (hK _ ?_)
     ·unfold Oper.quietAt
      obtain ⟨a0, a1, a2, a3, a4, a5, b0, b1, lk⟩ := HS.out W hW
      go_simp
     clear hK K
     simp only [Act.put, List.setIfInBounds_toArray, List.set_cons_zero, List.set_cons_succ]
     with_reducible refine BigFrame.wpQuiet_want ?gd (fun K hK => ?_)
     case gd => kernel_rfl
     with_reducible refine quiet_mk (.bool false) (fun W hW => ?_) (hK _ ?_)
     ·unfold Oper.quietAt
      go_simp
      refine (valid_calls (rd_T40 l0 n) _).mono ?_
      rintro e w1 ⟨rfl, hb1⟩
      exact ⟨by rw [hv], below2 hW hb1⟩
     clear hK K
     simp only [Act.put, List.setIfInBounds_toArray, List.set_cons_zero, List.set_cons_succ]
     with_reducible refine BigFrame.wpQuiet_want ?gd (fun K hK => ?_)
     case gd => kernel_rfl
     with_reducible refine quiet_mk (.bool true) (fun W hW => ?_) (hK _ ?_)
     ·unfold Oper.quietAt
      clear hW
      go_simp
     clear hK K
     simp only [Act.put, List.setIfInBounds_toArray, List.set_cons_zero, List.set_cons_succ]
     with_reducible refine BigFrame.wpQuiet_want ?gd (fun K hK => ?_)
     case gd => kernel_rfl
     with_reducible refine quiet_mk (.bool true) (fun W hW => ?_) (hK _ ?_)
     ·unfold Oper.quietAt
      clear hW
      go_simp
     clear hK K
     simp only [Act.put, List.setIfInBounds_toArray, List.set_cons_zero, List.set_cons_succ]
     with_reducible refine BigFrame.wpQuiet_skip ?gd ?_
     case gd => kernel_rfl
     simp only [Act.put, List.setIfInBounds_toArray, List.set_cons_zero, List.set_cons_succ]
     with_reducible refine BigFrame.wpQuiet_skip ?gd ?_
     case gd => kernel_rfl
     simp only [Act.put, List.setIfInBounds_toArray, List.set_cons_zero, List.set_cons_succ]
     with_reducible refine BigFrame.wpQuiet_skip ?gd ?_
     case gd => kernel_rfl
     simp only [Act.put, List.setIfInBounds_toArray, List.set_cons_zero, List.set_cons_succ]
     with_reducible refine BigFrame.wpQuiet_want ?gd (fun K hK => ?_)
     case gd => kernel_rfl
     with_reducible refine quiet_mk (.bool true) (fun W hW => ?_) (hK _ ?_)
     ·unfold Oper.quietAt
      clear hW
      go_simp
     clear hK K
     simp only [Act.put, List.setIfInBounds_toArray, List.set_cons_zero, List.set_cons_succ]
     with_reducible refine BigFrame.wpQuiet_want ?gd (fun K hK => ?_)
     case gd => kernel_rfl
     with_reducible refine quiet_mk (.bool true) (fun W hW => ?_) (hK _ ?_)
     ·unfold Oper.quietAt
      clear hW
      go_simp
     clear hK K
     simp only [Act.put, List.setIfInBounds_toArray, List.set_cons_zero, List.set_cons_succ]
     with_reducible refine BigFrame.wpQuiet_skip ?gd ?_
     case gd => kernel_rfl
     simp only [Act.put, List.setIfInBounds_toArray, List.set_cons_zero, List.set_cons_succ]
     with_reducible refine BigFrame.wpQuiet_skip ?gd ?_
     case gd => kernel_rfl
     simp only [Act.put, List.setIfInBounds_toArray, List.set_cons_zero, List.set_cons_succ]
     with_reducible refine BigFrame.wpQuiet_skip ?gd ?_
     case gd => kernel_rfl
     simp only [Act.put, List.setIfInBounds_toArray, List.set_cons_zero, List.set_cons_succ]
     with_reducible refine BigFrame.wpQuiet_skip ?gd ?_
     case gd => kernel_rfl
     simp only [Act.put, List.setIfInBounds_toArray, List.set_cons_zero, List.set_cons_succ]
     with_reducible refine BigFrame.wpQuiet_skip ?gd ?_
     case gd => kernel_rfl
     simp only [Act.put, List.setIfInBounds_toArray, List.set_cons_zero, List.set_cons_succ]
     with_reducible refine BigFrame.wpQuiet_skip ?gd ?_
     case gd => kernel_rfl
     simp only [Act.put, List.setIfInBounds_toArray, List.set_cons_zero, List.set_cons_succ]
     with_reducible refine BigFrame.wpQuiet_skip ?gd ?_
     case gd => kernel_rfl
     simp only [Act.put, List.setIfInBounds_toArray, List.set_cons_zero, List.set_cons_succ]
     with_reducible refine BigFrame.wpQuiet_skip ?gd ?_
     case gd => kernel_rfl
     simp only [Act.put, List.setIfInBounds_toArray, List.set_cons_zero, List.set_cons_succ]
     with_reducible refine BigFrame.wpQuiet_skip ?gd ?_
     case gd => kernel_rfl
     simp only [Act.put, List.setIfInBounds_toArray, List.set_cons_zero, List.set_cons_succ]
     with_reducible refine BigFrame.wpQuiet_skip ?gd ?_
     case gd => kernel_rfl
     simp only [Act.put, List.setIfInBounds_toArray, List.set_cons_zero, List.set_cons_succ]
     with_reducible refine BigFrame.wpQuiet_skip ?gd ?_
     case gd => kernel_rfl
     simp only [Act.put, List.setIfInBounds_toArray, List.set_cons_zero, List.set_cons_succ]
     with_reducible refine BigFrame.wpQuiet_skip ?gd ?_
     case gd => kernel_rfl
     simp only [Act.put, List.setIfInBounds_toArray, List.set_cons_zero, List.set_cons_succ]
     with_reducible refine BigFrame.wpQuiet_want ?gd (fun K hK => ?_)
     case gd => kernel_rfl
     with_reducible refine quiet_mk (.bool true) (fun W hW => ?_) (hK _ ?_)
     ·unfold Oper.quietAt
      clear hW
      go_simp
     clear hK K
     simp only [Act.put, List.setIfInBounds_toArray, List.set_cons_zero, List.set_cons_succ]
     with_reducible refine wpQuiet_nil ?_
     intro W2 hW2
     have HBC := Aside0.mk hW2
     clear hW2
     go_wp2
     go_ret
     exact ⟨by rw [← HV.out, chkD_false (n := n) (by omega) (opAt1 HQ.out)]; rfl, HBW.out.trans (HBC.out.mono HSZ.out)⟩
    ·have HQ := Aside0.mk hv
     cases met
     ·rcases Nat.eq_zero_or_pos n with hn0 | hn0
      ·have dp : decide (0 < n) = false := decide_eq_false (by omega)
       have dpi : decide ((0 : Int) < (n : Int)) = false := decide_eq_false (by omega)
       have HN0 := Aside0.mk hn0
       clear hn0
       refine wp_region_quiet (C := fun W => Below W1.heap.size W1 W) (by kernel_rfl) (by kernel_rfl) (below_drew1 (Below.refl _ _)) ?_
       with_reducible refine BigFrame.wpQuiet_want ?gd (fun K hK => ?_)
       case gd => kernel_rfl
       with_reducible refine quiet_mk (.agg #[.int .i64 (rd_T40 l0 n).f0, .int .i64 (rd_T40 l0 n).f1, .int .i64 (rd_T40 l0 n).f2, .int .i64 (rd_T40 l0 n).f3, .int .i64 (rd_T40 l0 n).f4, .int .i64 (rd_T40 l0 n).f5]) (fun W hW => ?_) (hK _ ?_)
       ·unfold Oper.quietAt
        obtain ⟨a0, a1, a2, a3, a4, a5, b0, b1, lk⟩ := HS.out W hW
        go_simp
       clear hK K
       simp only [Act.put, List.setIfInBounds_toArray, List.set_cons_zero, List.set_cons_succ]
       with_reducible refine BigFrame.wpQuiet_want ?gd (fun K hK => ?_)
       case gd => kernel_rfl
       with_reducible refine quiet_mk (.bool true) (fun W hW => ?_) (hK _ ?_)
       ·unfold Oper.quietAt
        go_simp
        refine (valid_calls (rd_T40 l0 n) _).mono ?_
        rintro e w1 ⟨rfl, hb1⟩
        exact ⟨by rw [hv], below2 hW hb1⟩
       clear hK K
       simp only [Act.put, List.setIfInBounds_toArray, List.set_cons_zero, List.set_cons_succ]
       with_reducible refine BigFrame.wpQuiet_want ?gd (fun K hK => ?_)
       case gd => kernel_rfl
       with_reducible refine quiet_mk (.bool false) (fun W hW => ?_) (hK _ ?_)
       ·unfold Oper.quietAt
        clear hW
        go_simp
       clear hK K
       simp only [Act.put, List.setIfInBounds_toArray, List.set_cons_zero, List.set_cons_succ]
       with_reducible refine BigFrame.wpQuiet_want ?gd (fun K hK => ?_)
       case gd => kernel_rfl
       with_reducible refine quiet_mk (.bool false) (fun W hW => ?_) (hK _ ?_)
       ·unfold Oper.quietAt
        clear hW
        go_simp
       clear hK K
       simp only [Act.put, List.setIfInBounds_toArray, List.set_cons_zero, List.set_cons_succ]
       with_reducible refine BigFrame.wpQuiet_want ?gd (fun K hK => ?_)
       case gd => kernel_rfl
       with_reducible refine quiet_mk (.map (some w.heap.size)) (fun W hW => ?_) (hK _ ?_)
       ·unfold Oper.quietAt
        clear hW
        go_simp
       clear hK K
       simp only [Act.put, List.setIfInBounds_toArray, List.set_cons_zero, List.set_cons_succ]
       with_reducible refine BigFrame.wpQuiet_want ?gd (fun K hK => ?_)
       case gd => kernel_rfl
       with_reducible refine quiet_mk (.agg #[.int .i64 (rd_T40 l0 n).f0, .int .i64 (rd_T40 l0 n).f1]) (fun W hW => ?_) (hK _ ?_)
       ·unfold Oper.quietAt
        obtain ⟨a0, a1, a2, a3, a4, a5, b0, b1, lk⟩ := HS.out W hW
        go_simp
       clear hK K
       simp only [Act.put, List.setIfInBounds_toArray, List.set_cons_zero, List.set_cons_succ]
       with_reducible refine BigFrame.wpQuiet_want ?gd (fun K hK => ?_)
       case gd => kernel_rfl
       with_reducible refine quiet_mk (.bool false) (fun W hW => ?_) (hK _ ?_)
       ·unfold Oper.quietAt
        obtain ⟨a0, a1, a2, a3, a4, a5, b0, b1, lk⟩ := HS.out W hW
        go_simp
       clear hK K
       simp only [Act.put, List.setIfInBounds_toArray, List.set_cons_zero, List.set_cons_succ]
       with_reducible refine BigFrame.wpQuiet_want ?gd (fun K hK => ?_)
       case gd => kernel_rfl
       with_reducible refine quiet_mk (.bool false) (fun W hW => ?_) (hK _ ?_)
       ·unfold Oper.quietAt
        clear hW
        go_simp
       clear hK K
       simp only [Act.put, List.setIfInBounds_toArray, List.set_cons_zero, List.set_cons_succ]
       with_reducible refine BigFrame.wpQuiet_want ?gd (fun K hK => ?_)
       case gd => kernel_rfl
       with_reducible refine quiet_mk (.bool false) (fun W hW => ?_) (hK _ ?_)
       ·unfold Oper.quietAt
        clear hW
        go_simp
       clear hK K
       simp only [Act.put, List.setIfInBounds_toArray, List.set_cons_zero, List.set_cons_succ]
       with_reducible refine BigFrame.wpQuiet_want ?gd (fun K hK => ?_)
       case gd => kernel_rfl
       with_reducible refine quiet_mk (.int .i64 n) (fun W hW => ?_) (hK _ ?_)
       ·unfold Oper.quietAt
        clear hW
        go_simp
       clear hK K
       simp only [Act.put, List.setIfInBounds_toArray, List.set_cons_zero, List.set_cons_succ]
       with_reducible refine BigFrame.wpQuiet_want ?gd (fun K hK => ?_)
       case gd => kernel_rfl
       with_reducible refine quiet_mk (.bool false) (fun W hW => ?_) (hK _ ?_)
       ·unfold Oper.quietAt
        clear hW
        go_simp
       clear hK K
       simp only [Act.put, List.setIfInBounds_toArray, List.set_cons_zero, List.set_cons_succ]
       with_reducible refine BigFrame.wpQuiet_want ?gd (fun K hK => ?_)
       case gd => kernel_rfl
       with_reducible refine quiet_mk (.bool false) (fun W hW => ?_) (hK _ ?_)
       ·unfold Oper.quietAt
        clear hW
        go_simp
       clear hK K
       simp only [Act.put, List.setIfInBounds_toArray, List.set_cons_zero, List.set_cons_succ]
       with_reducible refine BigFrame.wpQuiet_skip ?gd ?_
       case gd => kernel_rfl
       simp only [Act.put, List.setIfInBounds_toArray, List.set_cons_zero, List.set_cons_succ]
       with_reducible refine BigFrame.wpQuiet_skip ?gd ?_
       case gd => kernel_rfl
       simp only [Act.put, List.setIfInBounds_toArray, List.set_cons_zero, List.set_cons_succ]
       with_reducible refine BigFrame.wpQuiet_skip ?gd ?_
       case gd => kernel_rfl
       simp only [Act.put, List.setIfInBounds_toArray, List.set_cons_zero, List.set_cons_succ]
       with_reducible refine BigFrame.wpQuiet_skip ?gd ?_
       case gd => kernel_rfl
       simp only [Act.put, List.setIfInBounds_toArray, List.set_cons_zero, List.set_cons_succ]
       with_reducible refine BigFrame.wpQuiet_skip ?gd ?_
       case gd => kernel_rfl
       simp only [Act.put, List.setIfInBounds_toArray, List.set_cons_zero, List.set_cons_succ]
       with_reducible refine BigFrame.wpQuiet_skip ?gd ?_
       case gd => kernel_rfl
       simp only [Act.put, List.setIfInBounds_toArray, List.set_cons_zero, List.set_cons_succ]
       with_reducible refine BigFrame.wpQuiet_skip ?gd ?_
       case gd => kernel_rfl
       simp only [Act.put, List.setIfInBounds_toArray, List.set_cons_zero, List.set_cons_succ]
       with_reducible refine BigFrame.wpQuiet_skip ?gd ?_
       case gd => kernel_rfl
       simp only [Act.put, List.setIfInBounds_toArray, List.set_cons_zero, List.set_cons_succ]
       with_reducible refine BigFrame.wpQuiet_want ?gd (fun K hK => ?_)
       case gd => kernel_rfl
       with_reducible refine quiet_mk (.bool false) (fun W hW => ?_) (hK _ ?_)
       ·unfold Oper.quietAt
        clear hW
        go_simp
       clear hK K
       simp only [Act.put, List.setIfInBounds_toArray, List.set_cons_zero, List.set_cons_succ]
       with_reducible refine BigFrame.wpQuiet_want ?gd (fun K hK => ?_)
       case gd => kernel_rfl
       with_reducible refine quiet_mk (.bool false) (fun W hW => ?_) (hK _ ?_)
       ·unfold Oper.quietAt
        clear hW
        go_simp
       clear hK K
       simp only [Act.put, List.setIfInBounds_toArray, List.set_cons_zero, List.set_cons_succ]
       with_reducible refine wpQuiet_nil ?_
       intro W2 hW2
       have HBC := Aside0.mk hW2
       clear hW2
       have hnot : keyOf (rd_T40 l0 n) ∉ (l0.take n).map keyOf := by
        have := any_key (l0.take n) (rd_T40 l0 n)
        rw [HMT.out] at this
        simpa using this.symm
       obtain ⟨o1, hup, HM2⟩ := upd99 (HM1.out.below HBC.out) (keyOf (rd_T40 l0 n)) hnot
       simp only [keyOf, keyV] at hup
       have hcs2 := HS.out W2 HBC.out
       obtain ⟨a0, a1, a2, a3, a4, a5, b0, b1, lk⟩ := hcs2
       clear lk
       go_wp2
       go_roundw
       case rel =>
        refine ⟨n + 1, (by go_num), (by omega), ⟨fun j hj => ?_⟩, ⟨?_⟩, ⟨?_⟩, ⟨?_⟩⟩
        ·rcases Nat.lt_or_ge j (n) with h | h
         ·exact HN.out j h
         ·obtain rfl : j = n := by omega
          exact opAt4 HQ.out HMT.out (by rw [HN0.out]; rfl)
        ·exact take_key (by omega) HM2
        ·exact below_put (HBW.out.trans (HBC.out.mono HSZ.out)) (Nat.le_refl _) _
        ·have := HZ.out
         have := HZ1.out
         have := HBC.out.size
         have := HSZ.out
         simp only [World.putObj_size]
         omega
       case measure => simp [intOf]; omega
      ·have dp : decide (0 < n) = true := decide_eq_true hn0
       have dpi : decide ((0 : Int) < (n : Int)) = true := decide_eq_true (by omega)
       obtain ⟨m, hm⟩ : ∃ m, n = m + 1 := ⟨n - 1, by omega⟩
       have hml : m < l0.length := by omega
       have hw : IntKind.i64.wrap ((n : Int) - 1) = ((m : Nat) : Int) := by rw [show ((n : Int) - 1) = (m : Int) by omega]; exact IntWalk.i64_in _ (by omega)
       have HS2 : Aside0 (∀ W, Below W1.heap.size W1 W → W.cell? (ad.add (m * 6)) = some (.int .i64 (rd_T40 l0 m).f0) ∧ W.cell? ⟨(ad.add (m * 6)).block, (ad.add (m * 6)).off + 1, none⟩ = some (.int .i64 (rd_T40 l0 m).f1) ∧ W.cell? ⟨(ad.add (m * 6)).block, (ad.add (m * 6)).off + 2, none⟩ = some (.int .i64 (rd_T40 l0 m).f2) ∧ W.cell? ⟨(ad.add (m * 6)).block, (ad.add (m * 6)).off + 3, none⟩ = some (.int .i64 (rd_T40 l0 m).f3) ∧ W.cell? ⟨(ad.add (m * 6)).block, (ad.add (m * 6)).off + 4, none⟩ = some (.int .i64 (rd_T40 l0 m).f4) ∧ W.cell? ⟨(ad.add (m * 6)).block, (ad.add (m * 6)).off + 5, none⟩ = some (.int .i64 (rd_T40 l0 m).f5)) := by
        refine ⟨fun W hB => ?_⟩
        obtain ⟨ad2, e2, g0, g1, g2, g3, g4, g5⟩ := at_T40 (Kd.C_below HR.out (HBW.out.trans (hB.mono HSZ.out))) m (by omega) (by omega)
        cases e2
        simp only [Int.toNat_natCast] at g0 g1 g2 g3 g4 g5
        exact ⟨g0, g1, g2, g3, g4, g5⟩
       have HNM := Aside0.mk hm
       clear hm hn0
       have HCO := Aside0.mk (compare_calls (rd_T40 l0 m) (rd_T40 l0 n))
       cases hc : decide (0 ≤ cmpO (rd_T40 l0 m) (rd_T40 l0 n))
       ·have HCM := Aside0.mk hc
        refine wp_region_quiet (C := fun W => Below W1.heap.size W1 W) (by kernel_rfl) (by kernel_rfl) (below_drew1 (Below.refl _ _)) ?_
        with_reducible refine BigFrame.wpQuiet_want ?gd (fun K hK => ?_)
        case gd => kernel_rfl
        with_reducible refine quiet_mk (.agg #[.int .i64 (rd_T40 l0 n).f0, .int .i64 (rd_T40 l0 n).f1, .int .i64 (rd_T40 l0 n).f2, .int .i64 (rd_T40 l0 n).f3, .int .i64 (rd_T40 l0 n).f4, .int .i64 (rd_T40 l0 n).f5]) (fun W hW => ?_) (hK _ ?_)
        ·unfold Oper.quietAt
         obtain ⟨a0, a1, a2, a3, a4, a5, b0, b1, lk⟩ := HS.out W hW
         go_simp
        clear hK K
        simp only [Act.put, List.setIfInBounds_toArray, List.set_cons_zero, List.set_cons_succ]
        with_reducible refine BigFrame.wpQuiet_want ?gd (fun K hK => ?_)
        case gd => kernel_rfl
        with_reducible refine quiet_mk (.bool true) (fun W hW => ?_) (hK _ ?_)
        ·unfold Oper.quietAt
         go_simp
         refine (valid_calls (rd_T40 l0 n) _).mono ?_
         rintro e w1 ⟨rfl, hb1⟩
         exact ⟨by rw [hv], below2 hW hb1⟩
        clear hK K
        simp only [Act.put, List.setIfInBounds_toArray, List.set_cons_zero, List.set_cons_succ]
        with_reducible refine BigFrame.wpQuiet_want ?gd (fun K hK => ?_)
        case gd => kernel_rfl
        with_reducible refine quiet_mk (.bool false) (fun W hW => ?_) (hK _ ?_)
        ·unfold Oper.quietAt
         clear hW
         go_simp
        clear hK K
        simp only [Act.put, List.setIfInBounds_toArray, List.set_cons_zero, List.set_cons_succ]
        with_reducible refine BigFrame.wpQuiet_want ?gd (fun K hK => ?_)
        case gd => kernel_rfl
        with_reducible refine quiet_mk (.bool false) (fun W hW => ?_) (hK _ ?_)
        ·unfold Oper.quietAt
         clear hW
         go_simp
        clear hK K
        simp only [Act.put, List.setIfInBounds_toArray, List.set_cons_zero, List.set_cons_succ]
        with_reducible refine BigFrame.wpQuiet_want ?gd (fun K hK => ?_)
        case gd => kernel_rfl
        with_reducible refine quiet_mk (.map (some w.heap.size)) (fun W hW => ?_) (hK _ ?_)
        ·unfold Oper.quietAt
         clear hW
         go_simp
        clear hK K
        simp only [Act.put, List.setIfInBounds_toArray, List.set_cons_zero, List.set_cons_succ]
        with_reducible refine BigFrame.wpQuiet_want ?gd (fun K hK => ?_)
        case gd => kernel_rfl
        with_reducible refine quiet_mk (.agg #[.int .i64 (rd_T40 l0 n).f0, .int .i64 (rd_T40 l0 n).f1]) (fun W hW => ?_) (hK _ ?_)
        ·unfold Oper.quietAt
         obtain ⟨a0, a1, a2, a3, a4, a5, b0, b1, lk⟩ := HS.out W hW
         go_simp
        clear hK K
        simp only [Act.put, List.setIfInBounds_toArray, List.set_cons_zero, List.set_cons_succ]
        with_reducible refine BigFrame.wpQuiet_want ?gd (fun K hK => ?_)
        case gd => kernel_rfl
        with_reducible refine quiet_mk (.bool false) (fun W hW => ?_) (hK _ ?_)
        ·unfold Oper.quietAt
         obtain ⟨a0, a1, a2, a3, a4, a5, b0, b1, lk⟩ := HS.out W hW
         go_simp
        clear hK K
        simp only [Act.put, List.setIfInBounds_toArray, List.set_cons_zero, List.set_cons_succ]
        with_reducible refine BigFrame.wpQuiet_want ?gd (fun K hK => ?_)
        case gd => kernel_rfl
        with_reducible refine quiet_mk (.bool false) (fun W hW => ?_) (hK _ ?_)
        ·unfold Oper.quietAt
         clear hW
         go_simp
        clear hK K
        simp only [Act.put, List.setIfInBounds_toArray, List.set_cons_zero, List.set_cons_succ]
        with_reducible refine BigFrame.wpQuiet_want ?gd (fun K hK => ?_)
        case gd => kernel_rfl
        with_reducible refine quiet_mk (.bool false) (fun W hW => ?_) (hK _ ?_)
        ·unfold Oper.quietAt
         clear hW
         go_simp
        clear hK K
        simp only [Act.put, List.setIfInBounds_toArray, List.set_cons_zero, List.set_cons_succ]
        with_reducible refine BigFrame.wpQuiet_want ?gd (fun K hK => ?_)
        case gd => kernel_rfl
        with_reducible refine quiet_mk (.int .i64 n) (fun W hW => ?_) (hK _ ?_)
        ·unfold Oper.quietAt
         clear hW
         go_simp
        clear hK K
        simp only [Act.put, List.setIfInBounds_toArray, List.set_cons_zero, List.set_cons_succ]
        with_reducible refine BigFrame.wpQuiet_want ?gd (fun K hK => ?_)
        case gd => kernel_rfl
        with_reducible refine quiet_mk (.bool true) (fun W hW => ?_) (hK _ ?_)
        ·unfold Oper.quietAt
         clear hW
         go_simp
        clear hK K
        simp only [Act.put, List.setIfInBounds_toArray, List.set_cons_zero, List.set_cons_succ]
        with_reducible refine BigFrame.wpQuiet_want ?gd (fun K hK => ?_)
        case gd => kernel_rfl
        with_reducible refine quiet_mk (.bool true) (fun W hW => ?_) (hK _ ?_)
        ·unfold Oper.quietAt
         clear hW
         go_simp
        clear hK K
        simp only [Act.put, List.setIfInBounds_toArray, List.set_cons_zero, List.set_cons_succ]
        with_reducible refine BigFrame.wpQuiet_want ?gd (fun K hK => ?_)
        case gd => kernel_rfl
        with_reducible refine quiet_mk (.slice (some ad) l0.length c0) (fun W hW => ?_) (hK _ ?_)
        ·unfold Oper.quietAt
         clear hW
         go_simp
        clear hK K
        simp only [Act.put, List.setIfInBounds_toArray, List.set_cons_zero, List.set_cons_succ]
        with_reducible refine BigFrame.wpQuiet_want ?gd (fun K hK => ?_)
        case gd => kernel_rfl
        with_reducible refine quiet_mk (.int .i64 n) (fun W hW => ?_) (hK _ ?_)
        ·unfold Oper.quietAt
         clear hW
         go_simp
        clear hK K
        simp only [Act.put, List.setIfInBounds_toArray, List.set_cons_zero, List.set_cons_succ]
        with_reducible refine BigFrame.wpQuiet_want ?gd (fun K hK => ?_)
        case gd => kernel_rfl
        with_reducible refine quiet_mk (.int .i64 ((m : Nat) : Int)) (fun W hW => ?_) (hK _ ?_)
        ·unfold Oper.quietAt
         clear hW
         go_simp
        clear hK K
        simp only [Act.put, List.setIfInBounds_toArray, List.set_cons_zero, List.set_cons_succ]
        with_reducible refine BigFrame.wpQuiet_want ?gd (fun K hK => ?_)
        case gd => kernel_rfl
        with_reducible refine quiet_mk (.pointer (some (ad.add (m * 6)))) (fun W hW => ?_) (hK _ ?_)
        ·unfold Oper.quietAt
         clear hW
         go_simp
        clear hK K
        simp only [Act.put, List.setIfInBounds_toArray, List.set_cons_zero, List.set_cons_succ]
        with_reducible refine BigFrame.wpQuiet_want ?gd (fun K hK => ?_)
        case gd => kernel_rfl
        with_reducible refine quiet_mk (.agg #[.int .i64 (rd_T40 l0 m).f0, .int .i64 (rd_T40 l0 m).f1, .int .i64 (rd_T40 l0 m).f2, .int .i64 (rd_T40 l0 m).f3, .int .i64 (rd_T40 l0 m).f4, .int .i64 (rd_T40 l0 m).f5]) (fun W hW => ?_) (hK _ ?_)
        ·unfold Oper.quietAt
         obtain ⟨a0, a1, a2, a3, a4, a5, b0, b1, lk⟩ := HS.out W hW
         obtain ⟨p0, p1, p2, p3, p4, p5⟩ := HS2.out W hW
         go_simp
        clear hK K
        simp only [Act.put, List.setIfInBounds_toArray, List.set_cons_zero, List.set_cons_succ]
        with_reducible refine BigFrame.wpQuiet_want ?gd (fun K hK => ?_)
        case gd => kernel_rfl
        with_reducible refine quiet_mk (.agg #[.int .i64 (rd_T40 l0 n).f0, .int .i64 (rd_T40 l0 n).f1, .int .i64 (rd_T40 l0 n).f2, .int .i64 (rd_T40 l0 n).f3, .int .i64 (rd_T40 l0 n).f4, .int .i64 (rd_T40 l0 n).f5]) (fun W hW => ?_) (hK _ ?_)
        ·unfold Oper.quietAt
         obtain ⟨a0, a1, a2, a3, a4, a5, b0, b1, lk⟩ := HS.out W hW
         go_simp
        clear hK K
        simp only [Act.put, List.setIfInBounds_toArray, List.set_cons_zero, List.set_cons_succ]
        with_reducible refine BigFrame.wpQuiet_want ?gd (fun K hK => ?_)
        case gd => kernel_rfl
        with_reducible refine quiet_mk (.int .i64 (cmpO (rd_T40 l0 m) (rd_T40 l0 n))) (fun W hW => ?_) (hK _ ?_)
        ·unfold Oper.quietAt
         go_simp
         refine (HCO.out _).mono ?_
         rintro e w1 ⟨rfl, hb1⟩
         exact ⟨rfl, below2 hW hb1⟩
        clear hK K
        simp only [Act.put, List.setIfInBounds_toArray, List.set_cons_zero, List.set_cons_succ]
        with_reducible refine BigFrame.wpQuiet_want ?gd (fun K hK => ?_)
        case gd => kernel_rfl
        with_reducible refine quiet_mk (.bool false) (fun W hW => ?_) (hK _ ?_)
        ·unfold Oper.quietAt
         clear hW
         go_simp
        clear hK K
        simp only [Act.put, List.setIfInBounds_toArray, List.set_cons_zero, List.set_cons_succ]
        with_reducible refine BigFrame.wpQuiet_want ?gd (fun K hK => ?_)
        case gd => kernel_rfl
        with_reducible refine quiet_mk (.bool false) (fun W hW => ?_) (hK _ ?_)
        ·unfold Oper.quietAt
         clear hW
         go_simp
        clear hK K
        simp only [Act.put, List.setIfInBounds_toArray, List.set_cons_zero, List.set_cons_succ]
        with_reducible refine BigFrame.wpQuiet_want ?gd (fun K hK => ?_)
        case gd => kernel_rfl
        with_reducible refine quiet_mk (.bool false) (fun W hW => ?_) (hK _ ?_)
        ·unfold Oper.quietAt
         clear hW
         go_simp
        clear hK K
        simp only [Act.put, List.setIfInBounds_toArray, List.set_cons_zero, List.set_cons_succ]
        with_reducible refine wpQuiet_nil ?_
        intro W2 hW2
        have HBC := Aside0.mk hW2
        clear hW2
        have hnot : keyOf (rd_T40 l0 n) ∉ (l0.take n).map keyOf := by
         have := any_key (l0.take n) (rd_T40 l0 n)
         rw [HMT.out] at this
         simpa using this.symm
        obtain ⟨o1, hup, HM2⟩ := upd99 (HM1.out.below HBC.out) (keyOf (rd_T40 l0 n)) hnot
        simp only [keyOf, keyV] at hup
        have hcs2 := HS.out W2 HBC.out
        obtain ⟨a0, a1, a2, a3, a4, a5, b0, b1, lk⟩ := hcs2
        clear lk
        go_wp2
        go_roundw
        case rel =>
         refine ⟨n + 1, (by go_num), (by omega), ⟨fun j hj => ?_⟩, ⟨?_⟩, ⟨?_⟩, ⟨?_⟩⟩
         ·rcases Nat.lt_or_ge j (n) with h | h
          ·exact HN.out j h
          ·obtain rfl : j = n := by omega
           exact opAt6 HQ.out HMT.out HNM.out (by have := of_decide_eq_false HCM.out; omega)
         ·exact take_key (by omega) HM2
         ·exact below_put (HBW.out.trans (HBC.out.mono HSZ.out)) (Nat.le_refl _) _
         ·have := HZ.out
          have := HZ1.out
          have := HBC.out.size
          have := HSZ.out
          simp only [World.putObj_size]
          omega
        case measure => simp [intOf]; omega
       ·have HCM := Aside0.mk hc
        refine wp_region_quiet (C := fun W => Below W1.heap.size W1 W) (by kernel_rfl) (by kernel_rfl) (below_drew1 (Below.refl _ _)) ?_
        with_reducible refine BigFrame.wpQuiet_want ?gd (fun K hK => ?_)
        case gd => kernel_rfl
        with_reducible refine quiet_mk (.agg #[.int .i64 (rd_T40 l0 n).f0, .int .i64 (rd_T40 l0 n).f1, .int .i64 (rd_T40 l0 n).f2, .int .i64 (rd_T40 l0 n).f3, .int .i64 (rd_T40 l0 n).f4, .int .i64 (rd_T40 l0 n).f5]) (fun W hW => ?_) (hK _ ?_)
        ·unfold Oper.quietAt
         obtain ⟨a0, a1, a2, a3, a4, a5, b0, b1, lk⟩ := HS.out W hW
         go_simp
        clear hK K
        simp only [Act.put, List.setIfInBounds_toArray, List.set_cons_zero, List.set_cons_succ]
        with_reducible refine BigFrame.wpQuiet_want ?gd (fun K hK => ?_)
        case gd => kernel_rfl
        with_reducible refine quiet_mk (.bool true) (fun W hW => ?_) (hK _ ?_)
        ·unfold Oper.quietAt
         go_simp
         refine (valid_calls (rd_T40 l0 n) _).mono ?_
         rintro e w1 ⟨rfl, hb1⟩
         exact ⟨by rw [hv], below2 hW hb1⟩
        clear hK K
        simp only [Act.put, List.setIfInBounds_toArray, List.set_cons_zero, List.set_cons_succ]
        with_reducible refine BigFrame.wpQuiet_want ?gd (fun K hK => ?_)
        case gd => kernel_rfl
        with_reducible refine quiet_mk (.bool false) (fun W hW => ?_) (hK _ ?_)
        ·unfold Oper.quietAt
         clear hW
         go_simp
        clear hK K
        simp only [Act.put, List.setIfInBounds_toArray, List.set_cons_zero, List.set_cons_succ]
        with_reducible refine BigFrame.wpQuiet_want ?gd (fun K hK => ?_)
        case gd => kernel_rfl
        with_reducible refine quiet_mk (.bool false) (fun W hW => ?_) (hK _ ?_)
        ·unfold Oper.quietAt
         clear hW
         go_simp
        clear hK K
        simp only [Act.put, List.setIfInBounds_toArray, List.set_cons_zero, List.set_cons_succ]
        with_reducible refine BigFrame.wpQuiet_want ?gd (fun K hK => ?_)
        case gd => kernel_rfl
        with_reducible refine quiet_mk (.map (some w.heap.size)) (fun W hW => ?_) (hK _ ?_)
        ·unfold Oper.quietAt
         clear hW
         go_simp
        clear hK K
        simp only [Act.put, List.setIfInBounds_toArray, List.set_cons_zero, List.set_cons_succ]
        with_reducible refine BigFrame.wpQuiet_want ?gd (fun K hK => ?_)
        case gd => kernel_rfl
        with_reducible refine quiet_mk (.agg #[.int .i64 (rd_T40 l0 n).f0, .int .i64 (rd_T40 l0 n).f1]) (fun W hW => ?_) (hK _ ?_)
        ·unfold Oper.quietAt
         obtain ⟨a0, a1, a2, a3, a4, a5, b0, b1, lk⟩ := HS.out W hW
         go_simp
        clear hK K
        simp only [Act.put, List.setIfInBounds_toArray, List.set_cons_zero, List.set_cons_succ]
        with_reducible refine BigFrame.wpQuiet_want ?gd (fun K hK => ?_)
        case gd => kernel_rfl
        with_reducible refine quiet_mk (.bool false) (fun W hW => ?_) (hK _ ?_)
        ·unfold Oper.quietAt
         obtain ⟨a0, a1, a2, a3, a4, a5, b0, b1, lk⟩ := HS.out W hW
         go_simp
        clear hK K
        simp only [Act.put, List.setIfInBounds_toArray, List.set_cons_zero, List.set_cons_succ]
        with_reducible refine BigFrame.wpQuiet_want ?gd (fun K hK => ?_)
        case gd => kernel_rfl
        with_reducible refine quiet_mk (.bool false) (fun W hW => ?_) (hK _ ?_)
        ·unfold Oper.quietAt
         clear hW
         go_simp
        clear hK K
        simp only [Act.put, List.setIfInBounds_toArray, List.set_cons_zero, List.set_cons_succ]
        with_reducible refine BigFrame.wpQuiet_want ?gd (fun K hK => ?_)
        case gd => kernel_rfl
        with_reducible refine quiet_mk (.bool false) (fun W hW => ?_) (hK _ ?_)
        ·unfold Oper.quietAt
         clear hW
         go_simp
        clear hK K
        simp only [Act.put, List.setIfInBounds_toArray, List.set_cons_zero, List.set_cons_succ]
        with_reducible refine BigFrame.wpQuiet_want ?gd (fun K hK => ?_)
        case gd => kernel_rfl
        with_reducible refine quiet_mk (.int .i64 n) (fun W hW => ?_) (hK _ ?_)
        ·unfold Oper.quietAt
         clear hW
         go_simp
        clear hK K
        simp only [Act.put, List.setIfInBounds_toArray, List.set_cons_zero, List.set_cons_succ]
        with_reducible refine BigFrame.wpQuiet_want ?gd (fun K hK => ?_)
        case gd => kernel_rfl
        with_reducible refine quiet_mk (.bool true) (fun W hW => ?_) (hK _ ?_)
        ·unfold Oper.quietAt
         clear hW
         go_simp
        clear hK K
        simp only [Act.put, List.setIfInBounds_toArray, List.set_cons_zero, List.set_cons_succ]
        with_reducible refine BigFrame.wpQuiet_want ?gd (fun K hK => ?_)
        case gd => kernel_rfl
        with_reducible refine quiet_mk (.bool true) (fun W hW => ?_) (hK _ ?_)
        ·unfold Oper.quietAt
         clear hW
         go_simp
        clear hK K
        simp only [Act.put, List.setIfInBounds_toArray, List.set_cons_zero, List.set_cons_succ]
        with_reducible refine BigFrame.wpQuiet_want ?gd (fun K hK => ?_)
        case gd => kernel_rfl
        with_reducible refine quiet_mk (.slice (some ad) l0.length c0) (fun W hW => ?_) (hK _ ?_)
        ·unfold Oper.quietAt
         clear hW
         go_simp
        clear hK K
        simp only [Act.put, List.setIfInBounds_toArray, List.set_cons_zero, List.set_cons_succ]
        with_reducible refine BigFrame.wpQuiet_want ?gd (fun K hK => ?_)
        case gd => kernel_rfl
        with_reducible refine quiet_mk (.int .i64 n) (fun W hW => ?_) (hK _ ?_)
        ·unfold Oper.quietAt
         clear hW
         go_simp
        clear hK K
        simp only [Act.put, List.setIfInBounds_toArray, List.set_cons_zero, List.set_cons_succ]
        with_reducible refine BigFrame.wpQuiet_want ?gd (fun K hK => ?_)
        case gd => kernel_rfl
        with_reducible refine quiet_mk (.int .i64 ((m : Nat) : Int)) (fun W hW => ?_) (hK _ ?_)
        ·unfold Oper.quietAt
         clear hW
         go_simp
        clear hK K
        simp only [Act.put, List.setIfInBounds_toArray, List.set_cons_zero, List.set_cons_succ]
        with_reducible refine BigFrame.wpQuiet_want ?gd (fun K hK => ?_)
        case gd => kernel_rfl
        with_reducible refine quiet_mk (.pointer (some (ad.add (m * 6)))) (fun W hW => ?_) (hK _ ?_)
        ·unfold Oper.quietAt
         clear hW
         go_simp
        clear hK K
        simp only [Act.put, List.setIfInBounds_toArray, List.set_cons_zero, List.set_cons_succ]
        with_reducible refine BigFrame.wpQuiet_want ?gd (fun K hK => ?_)
        case gd => kernel_rfl
        with_reducible refine quiet_mk (.agg #[.int .i64 (rd_T40 l0 m).f0, .int .i64 (rd_T40 l0 m).f1, .int .i64 (rd_T40 l0 m).f2, .int .i64 (rd_T40 l0 m).f3, .int .i64 (rd_T40 l0 m).f4, .int .i64 (rd_T40 l0 m).f5]) (fun W hW => ?_) (hK _ ?_)
        ·unfold Oper.quietAt
         obtain ⟨a0, a1, a2, a3, a4, a5, b0, b1, lk⟩ := HS.out W hW
         obtain ⟨p0, p1, p2, p3, p4, p5⟩ := HS2.out W hW
         go_simp
        clear hK K
        simp only [Act.put, List.setIfInBounds_toArray, List.set_cons_zero, List.set_cons_succ]
        with_reducible refine BigFrame.wpQuiet_want ?gd (fun K hK => ?_)
        case gd => kernel_rfl
        with_reducible refine quiet_mk (.agg #[.int .i64 (rd_T40 l0 n).f0, .int .i64 (rd_T40 l0 n).f1, .int .i64 (rd_T40 l0 n).f2, .int .i64 (rd_T40 l0 n).f3, .int .i64 (rd_T40 l0 n).f4, .int .i64 (rd_T40 l0 n).f5]) (fun W hW => ?_) (hK _ ?_)
        ·unfold Oper.quietAt
         obtain ⟨a0, a1, a2, a3, a4, a5, b0, b1, lk⟩ := HS.out W hW
         go_simp
        clear hK K
        simp only [Act.put, List.setIfInBounds_toArray, List.set_cons_zero, List.set_cons_succ]
        with_reducible refine BigFrame.wpQuiet_want ?gd (fun K hK => ?_)
        case gd => kernel_rfl
        with_reducible refine quiet_mk (.int .i64 (cmpO (rd_T40 l0 m) (rd_T40 l0 n))) (fun W hW => ?_) (hK _ ?_)
        ·unfold Oper.quietAt
         go_simp
         refine (HCO.out _).mono ?_
         rintro e w1 ⟨rfl, hb1⟩
         exact ⟨rfl, below2 hW hb1⟩
        clear hK K
        simp only [Act.put, List.setIfInBounds_toArray, List.set_cons_zero, List.set_cons_succ]
        with_reducible refine BigFrame.wpQuiet_want ?gd (fun K hK => ?_)
        case gd => kernel_rfl
        with_reducible refine quiet_mk (.bool true) (fun W hW => ?_) (hK _ ?_)
        ·unfold Oper.quietAt
         clear hW
         go_simp
        clear hK K
        simp only [Act.put, List.setIfInBounds_toArray, List.set_cons_zero, List.set_cons_succ]
        with_reducible refine BigFrame.wpQuiet_want ?gd (fun K hK => ?_)
        case gd => kernel_rfl
        with_reducible refine quiet_mk (.bool true) (fun W hW => ?_) (hK _ ?_)
        ·unfold Oper.quietAt
         clear hW
         go_simp
        clear hK K
        simp only [Act.put, List.setIfInBounds_toArray, List.set_cons_zero, List.set_cons_succ]
        with_reducible refine BigFrame.wpQuiet_want ?gd (fun K hK => ?_)
        case gd => kernel_rfl
        with_reducible refine quiet_mk (.bool true) (fun W hW => ?_) (hK _ ?_)
        ·unfold Oper.quietAt
         clear hW
         go_simp
        clear hK K
        simp only [Act.put, List.setIfInBounds_toArray, List.set_cons_zero, List.set_cons_succ]
        with_reducible refine wpQuiet_nil ?_
        intro W2 hW2
        have HBC := Aside0.mk hW2
        clear hW2
        go_wp2
        go_ret
        exact ⟨by rw [← HV.out, chkD_false (n := n) (by omega) (opAt5 HNM.out (by have := of_decide_eq_true HCM.out; omega))]; rfl, HBW.out.trans (HBC.out.mono HSZ.out)⟩
     ·refine wp_region_quiet (C := fun W => Below W1.heap.size W1 W) (by kernel_rfl) (by kernel_rfl) (below_drew1 (Below.refl _ _)) ?_
      with_reducible refine BigFrame.wpQuiet_want ?gd (fun K hK => ?_)
      case gd => kernel_rfl
      with_reducible refine quiet_mk (.agg #[.int .i64 (rd_T40 l0 n).f0, .int .i64 (rd_T40 l0 n).f1, .int .i64 (rd_T40 l0 n).f2, .int .i64 (rd_T40 l0 n).f3, .int .i64 (rd_T40 l0 n).f4, .int .i64 (rd_T40 l0 n).f5]) (fun W hW => ?_) (hK _ ?_)
      ·unfold Oper.quietAt
       obtain ⟨a0, a1, a2, a3, a4, a5, b0, b1, lk⟩ := HS.out W hW
       go_simp
      clear hK K
      simp only [Act.put, List.setIfInBounds_toArray, List.set_cons_zero, List.set_cons_succ]
      with_reducible refine BigFrame.wpQuiet_want ?gd (fun K hK => ?_)
      case gd => kernel_rfl
      with_reducible refine quiet_mk (.bool true) (fun W hW => ?_) (hK _ ?_)
      ·unfold Oper.quietAt
       go_simp
       refine (valid_calls (rd_T40 l0 n) _).mono ?_
       rintro e w1 ⟨rfl, hb1⟩
       exact ⟨by rw [hv], below2 hW hb1⟩
      clear hK K
      simp only [Act.put, List.setIfInBounds_toArray, List.set_cons_zero, List.set_cons_succ]
      with_reducible refine BigFrame.wpQuiet_want ?gd (fun K hK => ?_)
      case gd => kernel_rfl
      with_reducible refine quiet_mk (.bool false) (fun W hW => ?_) (hK _ ?_)
      ·unfold Oper.quietAt
       clear hW
       go_simp
      clear hK K
      simp only [Act.put, List.setIfInBounds_toArray, List.set_cons_zero, List.set_cons_succ]
      with_reducible refine BigFrame.wpQuiet_want ?gd (fun K hK => ?_)
      case gd => kernel_rfl
      with_reducible refine quiet_mk (.bool false) (fun W hW => ?_) (hK _ ?_)
      ·unfold Oper.quietAt
       clear hW
       go_simp
      clear hK K
      simp only [Act.put, List.setIfInBounds_toArray, List.set_cons_zero, List.set_cons_succ]
      with_reducible refine BigFrame.wpQuiet_want ?gd (fun K hK => ?_)
      case gd => kernel_rfl
      with_reducible refine quiet_mk (.map (some w.heap.size)) (fun W hW => ?_) (hK _ ?_)
      ·unfold Oper.quietAt
       clear hW
       go_simp
      clear hK K
      simp only [Act.put, List.setIfInBounds_toArray, List.set_cons_zero, List.set_cons_succ]
      with_reducible refine BigFrame.wpQuiet_want ?gd (fun K hK => ?_)
      case gd => kernel_rfl
      with_reducible refine quiet_mk (.agg #[.int .i64 (rd_T40 l0 n).f0, .int .i64 (rd_T40 l0 n).f1]) (fun W hW => ?_) (hK _ ?_)
      ·unfold Oper.quietAt
       obtain ⟨a0, a1, a2, a3, a4, a5, b0, b1, lk⟩ := HS.out W hW
       go_simp
      clear hK K
      simp only [Act.put, List.setIfInBounds_toArray, List.set_cons_zero, List.set_cons_succ]
      with_reducible refine BigFrame.wpQuiet_want ?gd (fun K hK => ?_)
      case gd => kernel_rfl
      with_reducible refine quiet_mk (.bool true) (fun W hW => ?_) (hK _ ?_)
      ·unfold Oper.quietAt
       obtain ⟨a0, a1, a2, a3, a4, a5, b0, b1, lk⟩ := HS.out W hW
       go_simp
      clear hK K
      simp only [Act.put, List.setIfInBounds_toArray, List.set_cons_zero, List.set_cons_succ]
      with_reducible refine BigFrame.wpQuiet_want ?gd (fun K hK => ?_)
      case gd => kernel_rfl
      with_reducible refine quiet_mk (.bool true) (fun W hW => ?_) (hK _ ?_)
      ·unfold Oper.quietAt
       clear hW
       go_simp
      clear hK K
      simp only [Act.put, List.setIfInBounds_toArray, List.set_cons_zero, List.set_cons_succ]
      with_reducible refine BigFrame.wpQuiet_want ?gd (fun K hK => ?_)
      case gd => kernel_rfl
      with_reducible refine quiet_mk (.bool true) (fun W hW => ?_) (hK _ ?_)
      ·unfold Oper.quietAt
       clear hW
       go_simp
      clear hK K
      simp only [Act.put, List.setIfInBounds_toArray, List.set_cons_zero, List.set_cons_succ]
      with_reducible refine BigFrame.wpQuiet_skip ?gd ?_
      case gd => kernel_rfl
      simp only [Act.put, List.setIfInBounds_toArray, List.set_cons_zero, List.set_cons_succ]
      with_reducible refine BigFrame.wpQuiet_skip ?gd ?_
      case gd => kernel_rfl
      simp only [Act.put, List.setIfInBounds_toArray, List.set_cons_zero, List.set_cons_succ]
      with_reducible refine BigFrame.wpQuiet_skip ?gd ?_
      case gd => kernel_rfl
      simp only [Act.put, List.setIfInBounds_toArray, List.set_cons_zero, List.set_cons_succ]
      with_reducible refine BigFrame.wpQuiet_skip ?gd ?_
      case gd => kernel_rfl
      simp only [Act.put, List.setIfInBounds_toArray, List.set_cons_zero, List.set_cons_succ]
      with_reducible refine BigFrame.wpQuiet_skip ?gd ?_
      case gd => kernel_rfl
      simp only [Act.put, List.setIfInBounds_toArray, List.set_cons_zero, List.set_cons_succ]
      with_reducible refine BigFrame.wpQuiet_skip ?gd ?_
      case gd => kernel_rfl
      simp only [Act.put, List.setIfInBounds_toArray, List.set_cons_zero, List.set_cons_succ]
      with_reducible refine BigFrame.wpQuiet_skip ?gd ?_
      case gd => kernel_rfl
      simp only [Act.put, List.setIfInBounds_toArray, List.set_cons_zero, List.set_cons_succ]
      with_reducible refine BigFrame.wpQuiet_skip ?gd ?_
      case gd => kernel_rfl
      simp only [Act.put, List.setIfInBounds_toArray, List.set_cons_zero, List.set_cons_succ]
      with_reducible refine BigFrame.wpQuiet_skip ?gd ?_
      case gd => kernel_rfl
      simp only [Act.put, List.setIfInBounds_toArray, List.set_cons_zero, List.set_cons_succ]
      with_reducible refine BigFrame.wpQuiet_skip ?gd ?_
      case gd => kernel_rfl
      simp only [Act.put, List.setIfInBounds_toArray, List.set_cons_zero, List.set_cons_succ]
      with_reducible refine BigFrame.wpQuiet_skip ?gd ?_
      case gd => kernel_rfl
      simp only [Act.put, List.setIfInBounds_toArray, List.set_cons_zero, List.set_cons_succ]
      with_reducible refine BigFrame.wpQuiet_skip ?gd ?_
      case gd => kernel_rfl
      simp only [Act.put, List.setIfInBounds_toArray, List.set_cons_zero, List.set_cons_succ]
      with_reducible refine BigFrame.wpQuiet_want ?gd (fun K hK => ?_)
      case gd => kernel_rfl
      with_reducible refine quiet_mk (.bool true) (fun W hW => ?_) (hK _ ?_)
      ·unfold Oper.quietAt
       clear hW
       go_simp
      clear hK K
      simp only [Act.put, List.setIfInBounds_toArray, List.set_cons_zero, List.set_cons_succ]
      with_reducible refine wpQuiet_nil ?_
      intro W2 hW2
      have HBC := Aside0.mk hW2
      clear hW2
      go_wp2
      go_ret
      exact ⟨by rw [← HV.out, chkD_false (n := n) (by omega) (opAt2 HMT.out)]; rfl, HBW.out.trans (HBC.out.mono HSZ.out)⟩
   ·go_wp2
    go_ret
    exact ⟨by rw [← HV.out, if_pos (chkD_true E1.out HN.out (by omega))]; rfl, HB.out⟩
 ·have d1 : decide ((256 : Int) < (l0.length : Int)) = true := decide_eq_true (by omega)
  have E1 := Aside0.mk (decide_eq_false c1)
  go_enter Try.func29, Try.ntmps29
  go_wp2
  go_ret
  exact ⟨by rw [← HV.out]; simp only [chkD, E1.out]; rfl, Below.refl _ _⟩
end Go.Proofs.Ytkclehmjkncmnaa.P
