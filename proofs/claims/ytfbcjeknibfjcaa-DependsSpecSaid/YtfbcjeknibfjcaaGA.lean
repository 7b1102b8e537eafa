/- Several texts in one: G1, G2, G3, G4. -/
import Derived.Test.YtfbcjeknibfjcaaP0
import Derived.Test.YtfbcjeknibfjcaaH
/- slices.IndexFunc, slices.ContainsFunc over dependencies, instances and numbers; slices.Index, slices.Contains over numbers. Written by r13g1.py. -/
namespace Go.Proofs.Ytfbcjeknibfjcaa.P
open Go.RowKit Go.Proofs.YtfbcjeknibfjcaaW.PrintWords Go.Proofs.YtfbcjeknibfjcaaW.PrintLast Go.Proofs.YtfbcjeknibfjcaaW.PrintMore
set_option linter.unusedVariables false

def IdxPost (b : Bool) (w : World) (e : Ending) (w' : World) : Prop := ∃ i : Int, e = .returned (.int .i64 i) ∧ decide (i ≥ 0) = b ∧ Below w.heap.size w w'
theorem below2 {w w1 w2 : World} (h : Below w.heap.size w w1) (k : Below w1.heap.size w1 w2) : Below w.heap.size w w2 := h.trans (k.mono h.size)
theorem any_all_false {α : Type} {p : α → Bool} {l : List α} {n : Nat} (hn : l.length ≤ n) (h : ∀ j (_ : j < n) (hl : j < l.length), p l[j] = false) : l.any p = false := by
 rw [List.any_eq_false]
 intro x hx
 obtain ⟨j, hj, rfl⟩ := List.getElem_of_mem hx
 simp [h j (by omega) hj]
theorem rd_at3 (l : List Int) (n : Nat) (h : n < l.length) : rd l (n : Int) = l[n] := by simp [rd, h]
theorem rd_at29 (l : List S29) (n : Nat) (h : n < l.length) : rd_T29 l (n : Int) = l[n] := by simp [rd_T29, h]
theorem rd_at49 (l : List S49) (n : Nat) (h : n < l.length) : rd_T49 l (n : Int) = l[n] := by simp [rd_T49, h]
def FunAt3 (g : FuncId) (caps : Array Value) (p : Int → Bool) (w : World) (l : List Int) : Prop := ∀ x ∈ l, ∀ W, Below w.heap.size w W → Calls Try.prog g (#[.int .i64 x] ++ caps) W fun e w' => e = .returned (.bool (p x)) ∧ Below W.heap.size W w'
def FunAt29 (g : FuncId) (caps : Array Value) (p : S29 → Bool) (w : World) : Prop := ∀ (x : S29) W A0 c0 A2 c2, Below w.heap.size w W → x.f0.length ≤ c0 → Kd.string.C W A0 x.f0.length x.f0 → x.f2.length ≤ c2 → (Kd.int .i64).C W A2 x.f2.length x.f2 → Calls Try.prog g (#[.agg #[.slice A0 x.f0.length c0, .string x.f1, .slice A2 x.f2.length c2, .int .i64 x.f3]] ++ caps) W fun e w' => e = .returned (.bool (p x)) ∧ Below W.heap.size W w'
def FunAt49 (g : FuncId) (caps : Array Value) (p : S49 → Bool) (w : World) : Prop := ∀ (x : S49) W A3 c3, Below w.heap.size w W → x.f3.length ≤ c3 → (Kd.int .i64).C W A3 x.f3.length x.f3 → Calls Try.prog g (#[.agg #[.int .i64 x.f0, .int .i64 x.f1, .int .i64 x.f2, .slice A3 x.f3.length c3]] ++ caps) W fun e w' => e = .returned (.bool (p x)) ∧ Below W.heap.size W w'
set_option maxHeartbeats 400000 in
theorem index3_calls (g : FuncId) (caps : Array Value) (p : Int → Bool) (A0 : Option Addr) (c0 : Nat) (l0 : List Int) (w : World) (hr0 : Kd.C (Kd.int .i64) w A0 l0.length l0)
  (eg : ∀ args w, (callFunc g args).run Try.prog w = .ok (.enter g args) w) (hf : FunAt3 g caps p w l0) :
  Calls Try.prog 47 #[.slice A0 l0.length c0, .func (.func g) #[] caps] w (IdxPost (l0.any p) w) := by
 have HF := Aside0.mk hf
 have HR := Aside0.mk hr0
 have hl : l0.length ≤ 9223372036854775807 := hr0.2.1
 clear hf hr0
 go_enter Try.func47, Try.ntmps47
 go_wp2
 go_loopw [8] (fun v8 w' => ∃ n : Nat, v8 = .int .i64 n ∧ n ≤ l0.length ∧ Aside0 (∀ j (_ : j < n) (hl : j < l0.length), p l0[j] = false) ∧ Aside0 (Below w.heap.size w w')) (fun v8 _ => l0.length - (intOf v8).toNat)
 case atStart => exact ⟨0, rfl, Nat.zero_le _, ⟨fun j hj => absurd hj (by omega)⟩, ⟨Below.refl _ _⟩⟩
 case round =>
  obtain ⟨n, rfl, hn, HN, HB⟩ := hrel
  by_cases hlt : n < l0.length
  ·obtain ⟨ad, e1, hx0⟩ := Kd.at_int (Kd.C_below HR.out HB.out) n (by omega) (by omega)
   cases e1
   have HP := Aside0.mk (rd_at3 l0 n hlt)
   have hc := HF.out (rd l0 n) (by rw [rd_at3 l0 n hlt]; exact List.getElem_mem _) wr HB.out
   have HC := Aside0.mk hc
   clear hc
   simp only [Int.toNat_natCast] at hx0
   cases hp : p (rd l0 n)
   ·have HQ := Aside0.mk hp
    go_wp2_with ((with_reducible refine HC.out.mono ?_); rintro e w1 ⟨rfl, hb1⟩; rw [hp])
    go_roundw
    case rel =>
     refine ⟨n + 1, by go_num, hlt, ⟨fun j hj hl => ?_⟩, ⟨below2 HB.out hb1⟩⟩
     rcases Nat.lt_or_ge j n with h | h
     ·exact HN.out j h hl
     ·obtain rfl : j = n := by omega
      rw [← rd_at3 l0 j hl]
      exact HQ.out
    case measure => simp [intOf]; omega
   ·have HQ := Aside0.mk hp
    go_wp2_with ((with_reducible refine HC.out.mono ?_); rintro e w1 ⟨rfl, hb1⟩; rw [hp])
    go_ret
    refine ⟨n, rfl, ?_, below2 HB.out hb1⟩
    rw [show l0.any p = true from List.any_eq_true.2 ⟨l0[n], List.getElem_mem _, by rw [← rd_at3 l0 n hlt]; exact HQ.out⟩]
    simp
  ·have HA := Aside0.mk (any_all_false (by omega) HN.out)
   go_wp2
   go_ret
   refine ⟨-1, rfl, ?_, HB.out⟩
   rw [HA.out]
   simp
set_option maxHeartbeats 400000 in
theorem contains3_calls (g : FuncId) (caps : Array Value) (p : Int → Bool) (A0 : Option Addr) (c0 : Nat) (l0 : List Int) (w : World) (hr0 : Kd.C (Kd.int .i64) w A0 l0.length l0)
  (eg : ∀ args w, (callFunc g args).run Try.prog w = .ok (.enter g args) w) (hf : FunAt3 g caps p w l0) :
  Calls Try.prog 38 #[.slice A0 l0.length c0, .func (.func g) #[] caps] w fun e w' => e = .returned (.bool (l0.any p)) ∧ Below w.heap.size w w' := by
 have HI := Aside0.mk (index3_calls g caps p A0 c0 l0 w hr0 eg hf)
 clear hf hr0 eg
 go_enter Try.func38, Try.ntmps38
 go_wp2_with (go_at_call 47; (with_reducible refine HI.out.mono ?_); rintro e w1 ⟨i, rfl, hi, hb⟩; have HQ := Aside0.mk hi; clear hi)
 go_ret
 exact ⟨by rw [← HQ.out]; rfl, hb⟩
set_option maxHeartbeats 400000 in
theorem index29_calls (g : FuncId) (caps : Array Value) (p : S29 → Bool) (A0 : Option Addr) (c0 : Nat) (l0 : List S29) (w : World) (hr0 : Kd.C k29 w A0 l0.length l0)
  (eg : ∀ args w, (callFunc g args).run Try.prog w = .ok (.enter g args) w) (hf : FunAt29 g caps p w) :
  Calls Try.prog 44 #[.slice A0 l0.length c0, .func (.func g) #[] caps] w (IdxPost (l0.any p) w) := by
 have hu := Try.underlying29
 have HF := Aside0.mk hf
 have HR := Aside0.mk hr0
 have hl : l0.length ≤ 9223372036854775807 := hr0.2.1
 clear hf hr0
 go_enter Try.func44, Try.ntmps44
 go_wp2
 go_loopw [8] (fun v8 w' => ∃ n : Nat, v8 = .int .i64 n ∧ n ≤ l0.length ∧ Aside0 (∀ j (_ : j < n) (hl : j < l0.length), p l0[j] = false) ∧ Aside0 (Below w.heap.size w w')) (fun v8 _ => l0.length - (intOf v8).toNat)
 case atStart => exact ⟨0, rfl, Nat.zero_le _, ⟨fun j hj => absurd hj (by omega)⟩, ⟨Below.refl _ _⟩⟩
 case round =>
  obtain ⟨n, rfl, hn, HN, HB⟩ := hrel
  by_cases hlt : n < l0.length
  ·obtain ⟨ad, A0', c0', A2', c2', e1, hx0, hx1, hx2, hx3, hl0, hg0, hl2, hg2⟩ := at_T29 (Kd.C_below HR.out HB.out) n (by omega) (by omega)
   cases e1
   have HP := Aside0.mk (rd_at29 l0 n hlt)
   have hc := HF.out (rd_T29 l0 n) wr A0' c0' A2' c2' HB.out hl0 hg0 hl2 hg2
   have HC := Aside0.mk hc
   clear hc
   simp only [Int.toNat_natCast] at hx0 hx1 hx2 hx3
   cases hp : p (rd_T29 l0 n)
   ·have HQ := Aside0.mk hp
    go_wp2_with ((with_reducible refine HC.out.mono ?_); rintro e w1 ⟨rfl, hb1⟩; rw [hp])
    go_roundw
    case rel =>
     refine ⟨n + 1, by go_num, hlt, ⟨fun j hj hl => ?_⟩, ⟨below2 HB.out hb1⟩⟩
     rcases Nat.lt_or_ge j n with h | h
     ·exact HN.out j h hl
     ·obtain rfl : j = n := by omega
      rw [← rd_at29 l0 j hl]
      exact HQ.out
    case measure => simp [intOf]; omega
   ·have HQ := Aside0.mk hp
    go_wp2_with ((with_reducible refine HC.out.mono ?_); rintro e w1 ⟨rfl, hb1⟩; rw [hp])
    go_ret
    refine ⟨n, rfl, ?_, below2 HB.out hb1⟩
    rw [show l0.any p = true from List.any_eq_true.2 ⟨l0[n], List.getElem_mem _, by rw [← rd_at29 l0 n hlt]; exact HQ.out⟩]
    simp
  ·have HA := Aside0.mk (any_all_false (by omega) HN.out)
   go_wp2
   go_ret
   refine ⟨-1, rfl, ?_, HB.out⟩
   rw [HA.out]
   simp
set_option maxHeartbeats 400000 in
theorem contains29_calls (g : FuncId) (caps : Array Value) (p : S29 → Bool) (A0 : Option Addr) (c0 : Nat) (l0 : List S29) (w : World) (hr0 : Kd.C k29 w A0 l0.length l0)
  (eg : ∀ args w, (callFunc g args).run Try.prog w = .ok (.enter g args) w) (hf : FunAt29 g caps p w) :
  Calls Try.prog 33 #[.slice A0 l0.length c0, .func (.func g) #[] caps] w fun e w' => e = .returned (.bool (l0.any p)) ∧ Below w.heap.size w w' := by
 have HI := Aside0.mk (index29_calls g caps p A0 c0 l0 w hr0 eg hf)
 clear hf hr0 eg
 go_enter Try.func33, Try.ntmps33
 go_wp2_with (go_at_call 44; (with_reducible refine HI.out.mono ?_); rintro e w1 ⟨i, rfl, hi, hb⟩; have HQ := Aside0.mk hi; clear hi)
 go_ret
 exact ⟨by rw [← HQ.out]; rfl, hb⟩
set_option maxHeartbeats 400000 in
theorem index49_calls (g : FuncId) (caps : Array Value) (p : S49 → Bool) (A0 : Option Addr) (c0 : Nat) (l0 : List S49) (w : World) (hr0 : Kd.C k49 w A0 l0.length l0)
  (eg : ∀ args w, (callFunc g args).run Try.prog w = .ok (.enter g args) w) (hf : FunAt49 g caps p w) :
  Calls Try.prog 45 #[.slice A0 l0.length c0, .func (.func g) #[] caps] w (IdxPost (l0.any p) w) := by
 have hu := Try.underlying49
 have HF := Aside0.mk hf
 have HR := Aside0.mk hr0
 have hl : l0.length ≤ 9223372036854775807 := hr0.2.1
 clear hf hr0
 go_enter Try.func45, Try.ntmps45
 go_wp2
 go_loopw [8] (fun v8 w' => ∃ n : Nat, v8 = .int .i64 n ∧ n ≤ l0.length ∧ Aside0 (∀ j (_ : j < n) (hl : j < l0.length), p l0[j] = false) ∧ Aside0 (Below w.heap.size w w')) (fun v8 _ => l0.length - (intOf v8).toNat)
 case atStart => exact ⟨0, rfl, Nat.zero_le _, ⟨fun j hj => absurd hj (by omega)⟩, ⟨Below.refl _ _⟩⟩
 case round =>
  obtain ⟨n, rfl, hn, HN, HB⟩ := hrel
  by_cases hlt : n < l0.length
  ·obtain ⟨ad, A3', c3', e1, hx0, hx1, hx2, hx3, hl3, hg3⟩ := at_T49 (Kd.C_below HR.out HB.out) n (by omega) (by omega)
   cases e1
   have HP := Aside0.mk (rd_at49 l0 n hlt)
   have hc := HF.out (rd_T49 l0 n) wr A3' c3' HB.out hl3 hg3
   have HC := Aside0.mk hc
   clear hc
   simp only [Int.toNat_natCast] at hx0 hx1 hx2 hx3
   cases hp : p (rd_T49 l0 n)
   ·have HQ := Aside0.mk hp
    go_wp2_with ((with_reducible refine HC.out.mono ?_); rintro e w1 ⟨rfl, hb1⟩; rw [hp])
    go_roundw
    case rel =>
     refine ⟨n + 1, by go_num, hlt, ⟨fun j hj hl => ?_⟩, ⟨below2 HB.out hb1⟩⟩
     rcases Nat.lt_or_ge j n with h | h
     ·exact HN.out j h hl
     ·obtain rfl : j = n := by omega
      rw [← rd_at49 l0 j hl]
      exact HQ.out
    case measure => simp [intOf]; omega
   ·have HQ := Aside0.mk hp
    go_wp2_with ((with_reducible refine HC.out.mono ?_); rintro e w1 ⟨rfl, hb1⟩; rw [hp])
    go_ret
    refine ⟨n, rfl, ?_, below2 HB.out hb1⟩
    rw [show l0.any p = true from List.any_eq_true.2 ⟨l0[n], List.getElem_mem _, by rw [← rd_at49 l0 n hlt]; exact HQ.out⟩]
    simp
  ·have HA := Aside0.mk (any_all_false (by omega) HN.out)
   go_wp2
   go_ret
   refine ⟨-1, rfl, ?_, HB.out⟩
   rw [HA.out]
   simp
set_option maxHeartbeats 400000 in
theorem contains49_calls (g : FuncId) (caps : Array Value) (p : S49 → Bool) (A0 : Option Addr) (c0 : Nat) (l0 : List S49) (w : World) (hr0 : Kd.C k49 w A0 l0.length l0)
  (eg : ∀ args w, (callFunc g args).run Try.prog w = .ok (.enter g args) w) (hf : FunAt49 g caps p w) :
  Calls Try.prog 35 #[.slice A0 l0.length c0, .func (.func g) #[] caps] w fun e w' => e = .returned (.bool (l0.any p)) ∧ Below w.heap.size w w' := by
 have HI := Aside0.mk (index49_calls g caps p A0 c0 l0 w hr0 eg hf)
 clear hf hr0 eg
 go_enter Try.func35, Try.ntmps35
 go_wp2_with (go_at_call 45; (with_reducible refine HI.out.mono ?_); rintro e w1 ⟨i, rfl, hi, hb⟩; have HQ := Aside0.mk hi; clear hi)
 go_ret
 exact ⟨by rw [← HQ.out]; rfl, hb⟩
set_option maxHeartbeats 400000 in
theorem indexOf_calls (v : Int) (A0 : Option Addr) (c0 : Nat) (l0 : List Int) (w : World) (hr0 : Kd.C (Kd.int .i64) w A0 l0.length l0) :
  Calls Try.prog 48 #[.slice A0 l0.length c0, .int .i64 v] w (IdxPost (l0.any (· == v)) w) := by
 have HR := Aside0.mk hr0
 have hl : l0.length ≤ 9223372036854775807 := hr0.2.1
 clear hr0
 go_enter Try.func48, Try.ntmps48
 go_wp2
 go_loopw [8] (fun v8 w' => ∃ n : Nat, v8 = .int .i64 n ∧ n ≤ l0.length ∧ Aside0 (∀ j (_ : j < n) (hl : j < l0.length), (l0[j] == v) = false) ∧ Aside0 (Below w.heap.size w w')) (fun v8 _ => l0.length - (intOf v8).toNat)
 case atStart => exact ⟨0, rfl, Nat.zero_le _, ⟨fun j hj => absurd hj (by omega)⟩, ⟨Below.refl _ _⟩⟩
 case round =>
  obtain ⟨n, rfl, hn, HN, HB⟩ := hrel
  by_cases hlt : n < l0.length
  ·obtain ⟨ad, e1, hx0⟩ := Kd.at_int (Kd.C_below HR.out HB.out) n (by omega) (by omega)
   cases e1
   have HP := Aside0.mk (rd_at3 l0 n hlt)
   simp only [Int.toNat_natCast] at hx0
   cases hp : (v == rd l0 n)
   ·have HQ := Aside0.mk hp
    go_wp2
    go_roundw
    case rel =>
     refine ⟨n + 1, by go_num, hlt, ⟨fun j hj hl => ?_⟩, ⟨HB.out⟩⟩
     rcases Nat.lt_or_ge j n with h | h
     ·exact HN.out j h hl
     ·obtain rfl : j = n := by omega
      rw [← rd_at3 l0 j hl, BEq.comm]
      exact HQ.out
    case measure => simp [intOf]; omega
   ·have HQ := Aside0.mk hp
    go_wp2
    go_ret
    refine ⟨n, rfl, ?_, HB.out⟩
    rw [show l0.any (· == v) = true from List.any_eq_true.2 ⟨l0[n], List.getElem_mem _, by rw [← rd_at3 l0 n hlt, BEq.comm]; exact HQ.out⟩]
    simp
  ·have HA := Aside0.mk (any_all_false (p := (· == v)) (by omega) HN.out)
   go_wp2
   go_ret
   refine ⟨-1, rfl, ?_, HB.out⟩
   rw [HA.out]
   simp
theorem containsOf_calls (v : Int) (A0 : Option Addr) (c0 : Nat) (l0 : List Int) (w : World) (hr0 : Kd.C (Kd.int .i64) w A0 l0.length l0) :
  Calls Try.prog 43 #[.slice A0 l0.length c0, .int .i64 v] w fun e w' => e = .returned (.bool (l0.any (· == v))) ∧ Below w.heap.size w w' := by
 have HI := Aside0.mk (indexOf_calls v A0 c0 l0 w hr0)
 clear hr0
 go_enter Try.func43, Try.ntmps43
 go_wp2_with (go_at_call 48; (with_reducible refine HI.out.mono ?_); rintro e w1 ⟨i, rfl, hi, hb⟩; have HQ := Aside0.mk hi; clear hi)
 go_ret
 exact ⟨by rw [← HQ.out]; rfl, hb⟩
end Go.Proofs.Ytfbcjeknibfjcaa.P
/- depends.valid, Check. -/
namespace Go.Proofs.Ytfbcjeknibfjcaa.P
open Go.RowKit Go.Proofs.YtfbcjeknibfjcaaW.PrintWords Go.Proofs.YtfbcjeknibfjcaaW.PrintLast Go.Proofs.YtfbcjeknibfjcaaW.PrintMore
set_option linter.unusedVariables false

theorem wrap_id {x : Int} (h : -9223372036854775808 ≤ x) (h' : x ≤ 9223372036854775807) : wrap64 x = x := by unfold wrap64; omega
def outF (n : Nat) (f : Int) : Bool := decide (f < 0) || decide (f ≥ (n : Int))
set_option maxHeartbeats 400000 in
theorem outside_calls (b n : Nat) (A : Option Addr) (c : Nat) (f : Int) (W : World) (hc : W.cell? ⟨b, 4, none⟩ = some (.slice A n c)) :
  Calls Try.prog 42 #[.int .i64 f, .pointer (some ⟨b, 0, none⟩)] W fun e w' => e = .returned (.bool (outF n f)) ∧ Below W.heap.size W w' := by
 have hu := Try.underlying25
 have hu2 := Try.underlying24
 cases h0 : decide (f < 0)
 ·cases h1 : decide ((n : Int) ≤ f)
  ·have HQ := Aside0.mk h0
   have HQ1 := Aside0.mk h1
   go_enter Try.func42, Try.ntmps42
   go_wp2
   repeat (go_quiet (fail); try go_wp2)
   go_ret
   exact ⟨by rw [outF, HQ.out]; simp [HQ1.out], by repeat (first | exact Below.refl _ _ | apply below_alloc | apply pw_below_drewN | apply below_drew1)⟩
  ·have HQ := Aside0.mk h0
   have HQ1 := Aside0.mk h1
   go_enter Try.func42, Try.ntmps42
   go_wp2
   repeat (go_quiet (fail); try go_wp2)
   go_ret
   exact ⟨by rw [outF, HQ.out]; simp [HQ1.out], by repeat (first | exact Below.refl _ _ | apply below_alloc | apply pw_below_drewN | apply below_drew1)⟩
 ·have HQ := Aside0.mk h0
  go_enter Try.func42, Try.ntmps42
  go_wp2
  repeat (go_quiet (fail); try go_wp2)
  go_ret
  exact ⟨by rw [outF, HQ.out]; simp, by repeat (first | exact Below.refl _ _ | apply below_alloc | apply pw_below_drewN | apply below_drew1)⟩
/-- May the field at place i of a dependency's list be there? -/
def fromAt (n : Nat) (l : List Int) (i : Nat) : Bool := !outF n (rd l i) && !(l.take i).any (· == rd l i)
def vld (n : Nat) (l : List Int) (tx : Int) : Bool := (List.range l.length).all (fromAt n l) && (decide (0 < l.length) && (!outF n tx && !l.any (· == tx)))
theorem enters42 : ∀ args w, (callFunc 42 args).run Try.prog w = .ok (.enter 42 args) w := enters_ Try.func42 (by kernel_rfl) rfl
def depends_valid.f (a0_0 : ByteArray) (a0_1 : ByteArray) (a0_2 : Int) (a0_3 : Int) (l0_4 : List S97) (l0_5 : List S29) (l1_0 : List ByteArray) (a1_1 : ByteArray) (l1_2 : List Int) (a1_3 : Int) : Option Bool := some (vld l0_4.length l1_2 a1_3)
theorem fromAt_false {n : Nat} {l : List Int} {i : Nat} (hi : i < l.length) (h : fromAt n l i = false) (tx : Int) : vld n l tx = false := by
 have : (List.range l.length).all (fromAt n l) = false := by
  rw [List.all_eq_false]
  exact ⟨i, by simpa using hi, by simp [h]⟩
 simp [vld, this]
set_option maxHeartbeats 4000000 in
set_option maxRecDepth 100000 in
theorem depends_valid.calls (a0_0 : ByteArray) (a0_1 : ByteArray) (a0_2 : Int) (a0_3 : Int) (A0_4 : Option Addr) (c0_4 : Nat) (l0_4 : List S97) (A0_5 : Option Addr) (c0_5 : Nat) (l0_5 : List S29) (A1_0 : Option Addr) (c1_0 : Nat) (l1_0 : List ByteArray) (a1_1 : ByteArray) (A1_2 : Option Addr) (c1_2 : Nat) (l1_2 : List Int) (a1_3 : Int) (r : Bool) (w : World) (hr0_4 : Kd.C k97 w A0_4 l0_4.length l0_4) (hc0_4 : l0_4.length ≤ c0_4) (hr0_5 : Kd.C k29 w A0_5 l0_5.length l0_5) (hc0_5 : l0_5.length ≤ c0_5) (hr1_0 : Kd.C Kd.string w A1_0 l1_0.length l1_0) (hc1_0 : l1_0.length ≤ c1_0) (hr1_2 : Kd.C (Kd.int .i64) w A1_2 l1_2.length l1_2) (hc1_2 : l1_2.length ≤ c1_2) (h : depends_valid.f a0_0 a0_1 a0_2 a0_3 l0_4 l0_5 l1_0 a1_1 l1_2 a1_3 = some r) :
  Calls Try.prog 30 #[.agg #[.string a0_0, .string a0_1, .int .i64 a0_2, .int .i64 a0_3, .slice A0_4 l0_4.length c0_4, .slice A0_5 l0_5.length c0_5], .agg #[.slice A1_0 l1_0.length c1_0, .string a1_1, .slice A1_2 l1_2.length c1_2, .int .i64 a1_3]] w fun e w' => e = .returned (.bool r) ∧ Below w.heap.size w w' := by
 obtain rfl := Option.some.inj h
 have hu25 := Try.underlying25
 have hu29 := Try.underlying29
 have HR := Aside0.mk hr1_2
 have HC := Aside0.mk hc1_2
 have hl : l1_2.length ≤ 9223372036854775807 := hr1_2.2.1
 clear hr1_2 hc1_2 hr0_4 hc0_4 hr0_5 hc0_5 hr1_0 hc1_0 h
 have eg := enters42
 go_enter Try.func30, Try.ntmps30
 go_wp2
 obtain ⟨W0, hW0⟩ : ∃ W0, ((w.alloc (.cells #[.string a0_0, .string a0_1, .int .i64 a0_2, .int .i64 a0_3, .slice A0_4 l0_4.length c0_4, .slice A0_5 l0_5.length c0_5] 25)).alloc (.cells #[.slice A1_0 l1_0.length c1_0, .string a1_1, .slice A1_2 l1_2.length c1_2, .int .i64 a1_3] 29)) = W0 := ⟨_, rfl⟩
 rw [hW0]
 have hB0 : Below w.heap.size w W0 := by rw [← hW0]; exact below_alloc (below_alloc (Below.refl _ _) _) _
 have hz : w.heap.size + 2 ≤ W0.heap.size := by rw [← hW0]; simp
 have hs4 : W0.cell? ⟨w.heap.size, 4, none⟩ = some (.slice A0_4 l0_4.length c0_4) := by rw [← hW0]; simp
 have hd2 : W0.cell? ⟨w.heap.size + 1, 2, none⟩ = some (.slice A1_2 l1_2.length c1_2) := by rw [← hW0]; simp
 have hd3 : W0.cell? ⟨w.heap.size + 1, 3, none⟩ = some (.int .i64 a1_3) := by rw [← hW0]; simp
 have HS4 := Aside0.mk hs4
 have HD2 := Aside0.mk hd2
 have HD3 := Aside0.mk hd3
 have HZ := Aside0.mk hz
 have HB0 := Aside0.mk hB0
 clear hW0 hB0 hz hs4 hd2 hd3
 go_loopw [12] (fun v12 w' => ∃ n : Nat, v12 = .int .i64 n ∧ n ≤ l1_2.length ∧ Aside0 (∀ j : Nat, j < n → fromAt l0_4.length l1_2 j = true) ∧ Aside0 (Below W0.heap.size W0 w')) (fun v12 _ => l1_2.length - (intOf v12).toNat)
 case atStart => exact ⟨0, rfl, Nat.zero_le _, ⟨fun j hj => absurd hj (by omega)⟩, ⟨Below.refl _ _⟩⟩
 case round =>
  obtain ⟨n, rfl, hn, HN, HB⟩ := hrel
  have hz := HZ.out
  have hs4 : wr.cell? ⟨w.heap.size, 4, none⟩ = some (.slice A0_4 l0_4.length c0_4) := (HB.out.cell (p := ⟨w.heap.size, 4, none⟩) (by show w.heap.size < _; omega)).trans HS4.out
  have hd2 : wr.cell? ⟨w.heap.size + 1, 2, none⟩ = some (.slice A1_2 l1_2.length c1_2) := (HB.out.cell (p := ⟨w.heap.size + 1, 2, none⟩) (by show w.heap.size + 1 < _; omega)).trans HD2.out
  have hd3 : wr.cell? ⟨w.heap.size + 1, 3, none⟩ = some (.int .i64 a1_3) := (HB.out.cell (p := ⟨w.heap.size + 1, 3, none⟩) (by show w.heap.size + 1 < _; omega)).trans HD3.out
  have HBW := Aside0.mk (HB0.out.trans (HB.out.mono (by omega)))
  have HRW := Aside0.mk (Kd.C_below HR.out HBW.out)
  have HLW := Aside0.mk (show w.heap.size + 1 < wr.heap.size from Nat.lt_of_lt_of_le (by omega) HB.out.size)
  clear hz HS4 HD2 HD3 HZ HB0
  by_cases hlt : n < l1_2.length
  ·obtain ⟨ad, e1, hx0⟩ := Kd.at_int HRW.out n (by omega) (by omega)
   cases e1
   simp only [Int.toNat_natCast] at hx0
   have HO := Aside0.mk (outside_calls w.heap.size l0_4.length A0_4 c0_4 (rd l1_2 n) wr hs4)
   cases ho : outF l0_4.length (rd l1_2 n)
   ·obtain ⟨i0, hi0, _, hsz, _⟩ := info_parts info3
    obtain ⟨hcut, hA, hC⟩ := print_take_of (P := Try.prog) (Value.int .i64) 0 26 3 .i64 Try.underlying26 hi0 hsz (some ad) c1_2 l1_2 n (by omega) (by omega) HC.out
    simp only [Int.toNat_natCast] at hcut hA hC
    have HT : Aside0 (Kd.C (Kd.int .i64) wr (some ad) (l1_2.take n).length (l1_2.take n)) := ⟨Kd.C_of_reads (h1 := fun _ => rfl) (hA _ (Kd.reads_of_C HRW.out))⟩
    clear hA hC hi0 hsz hcut
    have hnc : n ≤ c1_2 := by have := HC.out; omega
    have HCN := Aside0.mk (fun W (h : Kd.C (Kd.int .i64) W (some ad) (l1_2.take n).length (l1_2.take n)) => containsOf_calls (rd l1_2 n) (some ad) c1_2 (l1_2.take n) W h)
    have hln : (l1_2.take n).length = n := by rw [List.length_take]; omega
    rw [hln] at HCN HT
    clear hln
    have HQ := Aside0.mk ho
    cases hcn : (l1_2.take n).any (· == rd l1_2 n)
    ·have HQ2 := Aside0.mk hcn
     go_wp2_with ((with_reducible refine HO.out.mono ?_); rintro e w1 ⟨rfl, hb1⟩; rw [ho]; have HB1 := Aside0.mk hb1; have hd21 : w1.cell? ⟨w.heap.size + 1, 2, none⟩ = some (.slice (some ad) l1_2.length c1_2) := (hb1.cell (p := ⟨w.heap.size + 1, 2, none⟩) HLW.out).trans hd2; clear hb1; refine Aside0.out (p := _) ?_)
     refine ⟨?_⟩
     go_wp2_with (go_at_call 43; (with_reducible refine (HCN.out _ (Kd.C_below HT.out HB1.out)).mono ?_); rintro e w2 ⟨rfl, hb2⟩; rw [hcn]; have HB2 := Aside0.mk (below2 HB1.out hb2); clear hb2)
     go_roundw
     case rel =>
      refine ⟨n + 1, (by go_num), hlt, ⟨fun j hj => ?_⟩, ⟨below2 HB.out HB2.out⟩⟩
      rcases Nat.lt_or_ge j n with h | h
      ·exact HN.out j h
      ·obtain rfl : j = n := by omega
       simp only [fromAt, HQ.out, HQ2.out]
       rfl
     case measure => simp [intOf]; omega
    ·have HQ2 := Aside0.mk hcn
     go_wp2_with ((with_reducible refine HO.out.mono ?_); rintro e w1 ⟨rfl, hb1⟩; rw [ho]; have HB1 := Aside0.mk hb1; have hd21 : w1.cell? ⟨w.heap.size + 1, 2, none⟩ = some (.slice (some ad) l1_2.length c1_2) := (hb1.cell (p := ⟨w.heap.size + 1, 2, none⟩) HLW.out).trans hd2; clear hb1; refine Aside0.out (p := _) ?_)
     refine ⟨?_⟩
     go_wp2_with (go_at_call 43; (with_reducible refine (HCN.out _ (Kd.C_below HT.out HB1.out)).mono ?_); rintro e w2 ⟨rfl, hb2⟩; rw [hcn]; have HB2 := Aside0.mk (below2 HB1.out hb2); clear hb2)
     go_ret
     exact ⟨by rw [fromAt_false (i := n) (by omega) (by simp only [fromAt, HQ.out, HQ2.out]; rfl)]; rfl, below2 HBW.out HB2.out⟩
   ·have HQ := Aside0.mk ho
    go_wp2_with ((with_reducible refine HO.out.mono ?_); rintro e w1 ⟨rfl, hb1⟩; rw [ho])
    go_ret
    exact ⟨by rw [fromAt_false (i := n) (by omega) (by simp only [fromAt, HQ.out]; rfl)]; rfl, below2 HBW.out hb1⟩
  ·have HALL : Aside0 ((List.range l1_2.length).all (fromAt l0_4.length l1_2) = true) := ⟨by rw [List.all_eq_true]; intro j hj; exact HN.out j (Nat.lt_of_lt_of_le (List.mem_range.1 hj) (Nat.le_of_not_lt hlt))⟩
   have HO := Aside0.mk (outside_calls w.heap.size l0_4.length A0_4 c0_4 a1_3 wr hs4)
   by_cases hpos : 0 < l1_2.length
   ·have hdp : decide (0 < (l1_2.length : Int)) = true := by simp; omega
    have hdp2 : decide (0 < l1_2.length) = true := by simp; omega
    have HP := Aside0.mk hdp2
    clear hdp2
    cases ho : outF l0_4.length a1_3
    ·have HQ := Aside0.mk ho
     cases hcn : l1_2.any (· == a1_3)
     ·have HQ2 := Aside0.mk hcn
      go_wp2_with ((with_reducible refine HO.out.mono ?_); rintro e w1 ⟨rfl, hb1⟩; rw [ho]; have HB1 := Aside0.mk hb1; have hd21 : w1.cell? ⟨w.heap.size + 1, 2, none⟩ = some (.slice A1_2 l1_2.length c1_2) := (hb1.cell (p := ⟨w.heap.size + 1, 2, none⟩) HLW.out).trans hd2; have hd31 : w1.cell? ⟨w.heap.size + 1, 3, none⟩ = some (.int .i64 a1_3) := (hb1.cell (p := ⟨w.heap.size + 1, 3, none⟩) HLW.out).trans hd3; clear hb1; refine Aside0.out (p := _) ?_)
      refine ⟨?_⟩
      go_wp2_with (go_at_call 43; (with_reducible refine (containsOf_calls a1_3 _ _ l1_2 _ ?s1).mono ?_); (case s1 => exact Kd.C_below HRW.out HB1.out); rintro e w2 ⟨rfl, hb2⟩; rw [hcn]; have HB2 := Aside0.mk (below2 HB1.out hb2); clear hb2)
      go_ret
      exact ⟨by simp only [vld, HALL.out, HP.out, HQ.out, HQ2.out]; rfl, below2 HBW.out HB2.out⟩
     ·have HQ2 := Aside0.mk hcn
      go_wp2_with ((with_reducible refine HO.out.mono ?_); rintro e w1 ⟨rfl, hb1⟩; rw [ho]; have HB1 := Aside0.mk hb1; have hd21 : w1.cell? ⟨w.heap.size + 1, 2, none⟩ = some (.slice A1_2 l1_2.length c1_2) := (hb1.cell (p := ⟨w.heap.size + 1, 2, none⟩) HLW.out).trans hd2; have hd31 : w1.cell? ⟨w.heap.size + 1, 3, none⟩ = some (.int .i64 a1_3) := (hb1.cell (p := ⟨w.heap.size + 1, 3, none⟩) HLW.out).trans hd3; clear hb1; refine Aside0.out (p := _) ?_)
      refine ⟨?_⟩
      go_wp2_with (go_at_call 43; (with_reducible refine (containsOf_calls a1_3 _ _ l1_2 _ ?s1).mono ?_); (case s1 => exact Kd.C_below HRW.out HB1.out); rintro e w2 ⟨rfl, hb2⟩; rw [hcn]; have HB2 := Aside0.mk (below2 HB1.out hb2); clear hb2)
      go_ret
      exact ⟨by simp only [vld, HALL.out, HP.out, HQ.out, HQ2.out]; rfl, below2 HBW.out HB2.out⟩
    ·have HQ := Aside0.mk ho
     go_wp2_with ((with_reducible refine HO.out.mono ?_); rintro e w1 ⟨rfl, hb1⟩; rw [ho])
     go_ret
     exact ⟨by simp only [vld, HALL.out, HP.out, HQ.out]; rfl, below2 HBW.out hb1⟩
   ·have hdp : decide (0 < (l1_2.length : Int)) = false := decide_eq_false (by omega)
    have hdp2 : decide (0 < l1_2.length) = false := decide_eq_false hpos
    have HP := Aside0.mk hdp2
    clear hdp2
    go_wp2
    go_ret
    exact ⟨by simp only [vld, HALL.out, HP.out]; rfl, HBW.out⟩
end Go.Proofs.Ytfbcjeknibfjcaa.P
/- depends.Check. -/
namespace Go.Proofs.Ytfbcjeknibfjcaa.P
open Go.RowKit Go.Proofs.YtfbcjeknibfjcaaW.PrintWords Go.Proofs.YtfbcjeknibfjcaaW.PrintLast Go.Proofs.YtfbcjeknibfjcaaW.PrintMore
set_option linter.unusedVariables false

def chk (n : Nat) (l : List S29) : Bool := decide (1 ≤ n) && (decide (n ≤ 12) && (decide (l.length ≤ 12) && !l.any fun d => !vld n d.f2 d.f3))
theorem enters34 : ∀ args w, (callFunc 34 args).run Try.prog w = .ok (.enter 34 args) w := enters_ Try.func34 (by kernel_rfl) rfl
set_option maxHeartbeats 1000000 in
set_option maxRecDepth 100000 in
theorem check1_calls (b : Nat) (a0_0 : ByteArray) (a0_1 : ByteArray) (a0_2 : Int) (a0_3 : Int) (A0_4 : Option Addr) (c0_4 : Nat) (l0_4 : List S97) (A0_5 : Option Addr) (c0_5 : Nat) (l0_5 : List S29) (w : World)
  (hb : b < w.heap.size)
  (h0 : w.cell? ⟨b, 0, none⟩ = some (.string a0_0)) (h1 : w.cell? ⟨b, 1, none⟩ = some (.string a0_1)) (h2 : w.cell? ⟨b, 2, none⟩ = some (.int .i64 a0_2)) (h3 : w.cell? ⟨b, 3, none⟩ = some (.int .i64 a0_3)) (h4 : w.cell? ⟨b, 4, none⟩ = some (.slice A0_4 l0_4.length c0_4)) (h5 : w.cell? ⟨b, 5, none⟩ = some (.slice A0_5 l0_5.length c0_5))
  (hr0_4 : Kd.C k97 w A0_4 l0_4.length l0_4) (hc0_4 : l0_4.length ≤ c0_4) (hr0_5 : Kd.C k29 w A0_5 l0_5.length l0_5) (hc0_5 : l0_5.length ≤ c0_5) :
  FunAt29 34 #[.pointer (some ⟨b, 0, none⟩)] (fun d => !vld l0_4.length d.f2 d.f3) w := by
 intro x W B0 d0 B2 d2 hB hl0 hg0 hl2 hg2
 have hu25 := Try.underlying25
 have hu29 := Try.underlying29
 have hB1 : Below w.heap.size w (W.alloc (.cells #[.slice B0 x.f0.length d0, .string x.f1, .slice B2 x.f2.length d2, .int .i64 x.f3] 29)) := below_alloc hB _
 have g0 : (W.alloc (.cells #[.slice B0 x.f0.length d0, .string x.f1, .slice B2 x.f2.length d2, .int .i64 x.f3] 29)).cell? ⟨b, 0, none⟩ = some (.string a0_0) := (hB1.cell (p := ⟨b, 0, none⟩) hb).trans h0
 have g1 : (W.alloc (.cells #[.slice B0 x.f0.length d0, .string x.f1, .slice B2 x.f2.length d2, .int .i64 x.f3] 29)).cell? ⟨b, 1, none⟩ = some (.string a0_1) := (hB1.cell (p := ⟨b, 1, none⟩) hb).trans h1
 have g2 : (W.alloc (.cells #[.slice B0 x.f0.length d0, .string x.f1, .slice B2 x.f2.length d2, .int .i64 x.f3] 29)).cell? ⟨b, 2, none⟩ = some (.int .i64 a0_2) := (hB1.cell (p := ⟨b, 2, none⟩) hb).trans h2
 have g3 : (W.alloc (.cells #[.slice B0 x.f0.length d0, .string x.f1, .slice B2 x.f2.length d2, .int .i64 x.f3] 29)).cell? ⟨b, 3, none⟩ = some (.int .i64 a0_3) := (hB1.cell (p := ⟨b, 3, none⟩) hb).trans h3
 have g4 : (W.alloc (.cells #[.slice B0 x.f0.length d0, .string x.f1, .slice B2 x.f2.length d2, .int .i64 x.f3] 29)).cell? ⟨b, 4, none⟩ = some (.slice A0_4 l0_4.length c0_4) := (hB1.cell (p := ⟨b, 4, none⟩) hb).trans h4
 have g5 : (W.alloc (.cells #[.slice B0 x.f0.length d0, .string x.f1, .slice B2 x.f2.length d2, .int .i64 x.f3] 29)).cell? ⟨b, 5, none⟩ = some (.slice A0_5 l0_5.length c0_5) := (hB1.cell (p := ⟨b, 5, none⟩) hb).trans h5
 obtain ⟨r, hr⟩ : ∃ r, vld l0_4.length x.f2 x.f3 = r := ⟨_, rfl⟩
 have hcall := depends_valid.calls a0_0 a0_1 a0_2 a0_3 A0_4 c0_4 l0_4 A0_5 c0_5 l0_5 B0 d0 x.f0 x.f1 B2 d2 x.f2 x.f3 r (W.alloc (.cells #[.slice B0 x.f0.length d0, .string x.f1, .slice B2 x.f2.length d2, .int .i64 x.f3] 29)) (Kd.C_below hr0_4 hB1) hc0_4 (Kd.C_below hr0_5 hB1) hc0_5 (Kd.C_alloc hg0 _) hl0 (Kd.C_alloc hg2 _) hl2 (by rw [depends_valid.f, hr])
 have HC := Aside0.mk hcall
 have HQ := Aside0.mk hr
 clear hcall hB hB1 hl0 hg0 hl2 hg2 h0 h1 h2 h3 h4 h5 hr0_4 hc0_4 hr0_5 hc0_5 hr
 show Calls Try.prog 34 #[.agg #[.slice B0 x.f0.length d0, .string x.f1, .slice B2 x.f2.length d2, .int .i64 x.f3], .pointer (some ⟨b, 0, none⟩)] W _
 go_enter Try.func34, Try.ntmps34
 go_wp2_with (go_at_call 30; (with_reducible refine HC.out.mono ?_); rintro e w1 ⟨rfl, hb1⟩)
 go_ret
 exact ⟨by rw [HQ.out]; rfl, (below_alloc (Below.refl _ W) _).trans (hb1.mono (by simp))⟩
def depends_Check.f (a0_0 : ByteArray) (a0_1 : ByteArray) (a0_2 : Int) (a0_3 : Int) (l0_4 : List S97) (l0_5 : List S29) : Option Int := some (if chk l0_4.length l0_5 = true then 0 else 130)
set_option maxHeartbeats 4000000 in
set_option maxRecDepth 100000 in
theorem depends_Check.calls (a0_0 : ByteArray) (a0_1 : ByteArray) (a0_2 : Int) (a0_3 : Int) (A0_4 : Option Addr) (c0_4 : Nat) (l0_4 : List S97) (A0_5 : Option Addr) (c0_5 : Nat) (l0_5 : List S29) (r : Int) (w : World) (hr0_4 : Kd.C k97 w A0_4 l0_4.length l0_4) (hc0_4 : l0_4.length ≤ c0_4) (hr0_5 : Kd.C k29 w A0_5 l0_5.length l0_5) (hc0_5 : l0_5.length ≤ c0_5) (h : depends_Check.f a0_0 a0_1 a0_2 a0_3 l0_4 l0_5 = some r) :
  Calls Try.prog 16 #[.agg #[.string a0_0, .string a0_1, .int .i64 a0_2, .int .i64 a0_3, .slice A0_4 l0_4.length c0_4, .slice A0_5 l0_5.length c0_5]] w fun e w' => e = .returned (.int .i64 r) ∧ Below w.heap.size w w' := by
 have HV := Aside0.mk (Option.some.inj h)
 have hu25 := Try.underlying25
 obtain ⟨W0, hW0⟩ : ∃ W0, w.alloc (.cells #[.string a0_0, .string a0_1, .int .i64 a0_2, .int .i64 a0_3, .slice A0_4 l0_4.length c0_4, .slice A0_5 l0_5.length c0_5] 25) = W0 := ⟨_, rfl⟩
 have hB0 : Below w.heap.size w W0 := by rw [← hW0]; exact below_alloc (Below.refl _ _) _
 have hz : w.heap.size < W0.heap.size := by rw [← hW0]; simp
 have hs0 : W0.cell? ⟨w.heap.size, 0, none⟩ = some (.string a0_0) := by rw [← hW0]; simp
 have hs1 : W0.cell? ⟨w.heap.size, 1, none⟩ = some (.string a0_1) := by rw [← hW0]; simp
 have hs2 : W0.cell? ⟨w.heap.size, 2, none⟩ = some (.int .i64 a0_2) := by rw [← hW0]; simp
 have hs3 : W0.cell? ⟨w.heap.size, 3, none⟩ = some (.int .i64 a0_3) := by rw [← hW0]; simp
 have hs4 : W0.cell? ⟨w.heap.size, 4, none⟩ = some (.slice A0_4 l0_4.length c0_4) := by rw [← hW0]; simp
 have hs5 : W0.cell? ⟨w.heap.size, 5, none⟩ = some (.slice A0_5 l0_5.length c0_5) := by rw [← hW0]; simp
 have HF := Aside0.mk (check1_calls w.heap.size a0_0 a0_1 a0_2 a0_3 A0_4 c0_4 l0_4 A0_5 c0_5 l0_5 W0 hz hs0 hs1 hs2 hs3 hs4 hs5 (Kd.C_below hr0_4 hB0) hc0_4 (Kd.C_below hr0_5 hB0) hc0_5)
 have HR := Aside0.mk (Kd.C_below hr0_5 hB0)
 have HB := Aside0.mk hB0
 clear hr0_4 hr0_5 hc0_4 hc0_5 h hB0 hz hs0 hs1 hs2 hs3 hs4 hs5
 subst hW0
 by_cases c1 : 1 ≤ l0_4.length
 ·have d1 : decide ((l0_4.length : Int) < 1) = false := decide_eq_false (by omega)
  have E1 := Aside0.mk (decide_eq_true c1)
  by_cases c2 : l0_4.length ≤ 12
  ·have d2 : decide ((12 : Int) < (l0_4.length : Int)) = false := decide_eq_false (by omega)
   have E2 := Aside0.mk (decide_eq_true c2)
   by_cases c3 : l0_5.length ≤ 12
   ·have d3 : decide ((12 : Int) < (l0_5.length : Int)) = false := decide_eq_false (by omega)
    have E3 := Aside0.mk (decide_eq_true c3)
    have HI := Aside0.mk (contains29_calls 34 #[.pointer (some ⟨w.heap.size, 0, none⟩)] _ A0_5 c0_5 l0_5 _ HR.out enters34 HF.out)
    cases hp : l0_5.any (fun d => !vld l0_4.length d.f2 d.f3)
    ·have HQ := Aside0.mk hp
     go_enter Try.func16, Try.ntmps16
     go_wp2_with (go_at_call 33; (with_reducible refine HI.out.mono ?_); rintro e w1 ⟨rfl, hb1⟩; rw [hp])
     go_ret
     exact ⟨by rw [← HV.out]; simp only [chk, E1.out, E2.out, E3.out, HQ.out]; rfl, HB.out.trans (hb1.mono HB.out.size)⟩
    ·have HQ := Aside0.mk hp
     go_enter Try.func16, Try.ntmps16
     go_wp2_with (go_at_call 33; (with_reducible refine HI.out.mono ?_); rintro e w1 ⟨rfl, hb1⟩; rw [hp])
     go_ret
     exact ⟨by rw [← HV.out]; simp only [chk, E1.out, E2.out, E3.out, HQ.out]; rfl, HB.out.trans (hb1.mono HB.out.size)⟩
   ·have d3 : decide ((12 : Int) < (l0_5.length : Int)) = true := decide_eq_true (by omega)
    have E3 := Aside0.mk (decide_eq_false c3)
    go_enter Try.func16, Try.ntmps16
    go_wp2
    repeat (go_quiet (fail); try go_wp2)
    go_ret
    exact ⟨by rw [← HV.out]; simp only [chk, E1.out, E2.out, E3.out]; rfl, by repeat (first | exact HB.out | apply below_alloc | apply pw_below_drewN | apply below_drew1)⟩
  ·have d2 : decide ((12 : Int) < (l0_4.length : Int)) = true := decide_eq_true (by omega)
   have E2 := Aside0.mk (decide_eq_false c2)
   go_enter Try.func16, Try.ntmps16
   go_wp2
   repeat (go_quiet (fail); try go_wp2)
   go_ret
   exact ⟨by rw [← HV.out]; simp only [chk, E1.out, E2.out]; rfl, by repeat (first | exact HB.out | apply below_alloc | apply pw_below_drewN | apply below_drew1)⟩
 ·have d1 : decide ((l0_4.length : Int) < 1) = true := decide_eq_true (by omega)
  have E1 := Aside0.mk (decide_eq_false c1)
  go_enter Try.func16, Try.ntmps16
  go_wp2
  repeat (go_quiet (fail); try go_wp2)
  go_ret
  exact ⟨by rw [← HV.out]; simp only [chk, E1.out]; rfl, by repeat (first | exact HB.out | apply below_alloc | apply pw_below_drewN | apply below_drew1)⟩
end Go.Proofs.Ytfbcjeknibfjcaa.P
/- The law's breaks. -/
namespace Go.Proofs.Ytfbcjeknibfjcaa.P
open Go.RowKit Go.Proofs.YtfbcjeknibfjcaaW.PrintWords Go.Proofs.YtfbcjeknibfjcaaW.PrintLast Go.Proofs.YtfbcjeknibfjcaaW.PrintMore
set_option linter.unusedVariables false

def insB (na nb : Nat) (f : Int) : Bool := decide (0 ≤ f) && (decide (f < (na : Int)) && decide (f < (nb : Int)))
theorem insB_iff {na nb : Nat} {f : Int} : insB na nb f = true ↔ 0 ≤ f ∧ f < na ∧ f < nb := by simp [insB]
set_option maxHeartbeats 400000 in
theorem inside_calls (ba bb na nb : Nat) (Aa Ab : Option Addr) (ca cb : Nat) (f : Int) (W' : World) (ha' : W'.cell? ⟨ba, 3, none⟩ = some (.slice Aa na ca)) (hb' : W'.cell? ⟨bb, 3, none⟩ = some (.slice Ab nb cb)) (hba : ba < W'.heap.size) (hbb : bb < W'.heap.size) (W : World) (hB : Below W'.heap.size W' W) :
  Calls Try.prog 41 #[.int .i64 f, .pointer (some ⟨ba, 0, none⟩), .pointer (some ⟨bb, 0, none⟩)] W fun e w' => e = .returned (.bool (insB na nb f)) ∧ Drawn0 W w' := by
 have ha : W.cell? ⟨ba, 3, none⟩ = some (.slice Aa na ca) := (hB.cell (p := ⟨ba, 3, none⟩) hba).trans ha'
 have hb : W.cell? ⟨bb, 3, none⟩ = some (.slice Ab nb cb) := (hB.cell (p := ⟨bb, 3, none⟩) hbb).trans hb'
 clear ha' hb' hba hbb hB
 have hu := Try.underlying49
 cases h0 : decide (0 ≤ f)
 ·have HQ := Aside0.mk h0
  go_enter Try.func41, Try.ntmps41
  go_wp2
  repeat (go_quiet (fail); try go_wp2)
  go_ret
  exact ⟨by rw [insB, HQ.out]; rfl, by repeat (first | exact Drawn0.refl _ | apply Drawn0.step)⟩
 ·cases h1 : decide (f < (na : Int))
  ·have HQ := Aside0.mk h0
   have HQ1 := Aside0.mk h1
   go_enter Try.func41, Try.ntmps41
   go_wp2
   repeat (go_quiet (fail); try go_wp2)
   go_ret
   exact ⟨by rw [insB, HQ.out, HQ1.out]; rfl, by repeat (first | exact Drawn0.refl _ | apply Drawn0.step)⟩
  ·cases h2 : decide (f < (nb : Int))
   ·have HQ := Aside0.mk h0
    have HQ1 := Aside0.mk h1
    have HQ2 := Aside0.mk h2
    go_enter Try.func41, Try.ntmps41
    go_wp2
    repeat (go_quiet (fail); try go_wp2)
    go_ret
    exact ⟨by rw [insB, HQ.out, HQ1.out, HQ2.out]; rfl, by repeat (first | exact Drawn0.refl _ | apply Drawn0.step)⟩
   ·have HQ := Aside0.mk h0
    have HQ1 := Aside0.mk h1
    have HQ2 := Aside0.mk h2
    go_enter Try.func41, Try.ntmps41
    go_wp2
    repeat (go_quiet (fail); try go_wp2)
    go_ret
    exact ⟨by rw [insB, HQ.out, HQ1.out, HQ2.out]; rfl, by repeat (first | exact Drawn0.refl _ | apply Drawn0.step)⟩
def alikeB (va vb : List Int) (f : Int) : Bool := insB va.length vb.length f && (rd va f == rd vb f)
def brk (va vb l : List Int) (tx : Int) : Bool := l.all (alikeB va vb) && (insB va.length vb.length tx && (rd va tx != rd vb tx))
theorem enters41 : ∀ args w, (callFunc 41 args).run Try.prog w = .ok (.enter 41 args) w := enters_ Try.func41 (by kernel_rfl) rfl
theorem brk_false {va vb l : List Int} {tx : Int} {n : Nat} (hn : n < l.length) (h : alikeB va vb (rd l n) = false) : brk va vb l tx = false := by
 have : l.all (alikeB va vb) = false := by
  rw [List.all_eq_false]
  exact ⟨l[n], List.getElem_mem _, by rw [← rd_at3 l n hn, h]; simp⟩
 simp [brk, this]
theorem cell3_0 (w : World) (o p : Obj) (cs : Array Value) (e k : Nat) (v : Value) (h : cs[k]? = some v) : (((w.alloc (.cells cs e)).alloc o).alloc p).cell? ⟨w.heap.size, k, none⟩ = some v :=
 (blk_cell (blk_alloc (blk_alloc (blk_new w (.cells cs e)) o) p) k).trans h
theorem cell3_1 (w : World) (o p : Obj) (cs : Array Value) (e k : Nat) (v : Value) (h : cs[k]? = some v) : (((w.alloc o).alloc (.cells cs e)).alloc p).cell? ⟨w.heap.size + 1, k, none⟩ = some v := by
 have := (blk_cell (blk_alloc (blk_new (w.alloc o) (.cells cs e)) p) k)
 rw [show (w.alloc o).heap.size = w.heap.size + 1 from by simp] at this
 exact this.trans h
theorem cell3_2 (w : World) (o p : Obj) (cs : Array Value) (e k : Nat) (v : Value) (h : cs[k]? = some v) : (((w.alloc o).alloc p).alloc (.cells cs e)).cell? ⟨w.heap.size + 1 + 1, k, none⟩ = some v := by
 have := (blk_cell (blk_new ((w.alloc o).alloc p) (.cells cs e)) k)
 rw [show ((w.alloc o).alloc p).heap.size = w.heap.size + 1 + 1 from by simp] at this
 exact this.trans h
def testamurlaw13_breaks.f (a0_0 : Int) (a0_1 : Int) (a0_2 : Int) (l0_3 : List Int) (a1_0 : Int) (a1_1 : Int) (a1_2 : Int) (l1_3 : List Int) (l2_0 : List ByteArray) (a2_1 : ByteArray) (l2_2 : List Int) (a2_3 : Int) : Option Bool := some (brk l0_3 l1_3 l2_2 a2_3)
set_option maxHeartbeats 4000000 in
set_option maxRecDepth 100000 in
theorem testamurlaw13_breaks.calls (a0_0 : Int) (a0_1 : Int) (a0_2 : Int) (A0_3 : Option Addr) (c0_3 : Nat) (l0_3 : List Int) (a1_0 : Int) (a1_1 : Int) (a1_2 : Int) (A1_3 : Option Addr) (c1_3 : Nat) (l1_3 : List Int) (A2_0 : Option Addr) (c2_0 : Nat) (l2_0 : List ByteArray) (a2_1 : ByteArray) (A2_2 : Option Addr) (c2_2 : Nat) (l2_2 : List Int) (a2_3 : Int) (r : Bool) (w : World) (hr0_3 : Kd.C (Kd.int .i64) w A0_3 l0_3.length l0_3) (hc0_3 : l0_3.length ≤ c0_3) (hr1_3 : Kd.C (Kd.int .i64) w A1_3 l1_3.length l1_3) (hc1_3 : l1_3.length ≤ c1_3) (hr2_0 : Kd.C Kd.string w A2_0 l2_0.length l2_0) (hc2_0 : l2_0.length ≤ c2_0) (hr2_2 : Kd.C (Kd.int .i64) w A2_2 l2_2.length l2_2) (hc2_2 : l2_2.length ≤ c2_2) (h : testamurlaw13_breaks.f a0_0 a0_1 a0_2 l0_3 a1_0 a1_1 a1_2 l1_3 l2_0 a2_1 l2_2 a2_3 = some r) :
  Calls Try.prog 24 #[.agg #[.int .i64 a0_0, .int .i64 a0_1, .int .i64 a0_2, .slice A0_3 l0_3.length c0_3], .agg #[.int .i64 a1_0, .int .i64 a1_1, .int .i64 a1_2, .slice A1_3 l1_3.length c1_3], .agg #[.slice A2_0 l2_0.length c2_0, .string a2_1, .slice A2_2 l2_2.length c2_2, .int .i64 a2_3]] w fun e w' => e = .returned (.bool r) ∧ Below w.heap.size w w' := by
 have HV := Aside0.mk (Option.some.inj h)
 have hu49 := Try.underlying49
 have hu29 := Try.underlying29
 have HR := Aside0.mk hr2_2
 have HA := Aside0.mk hr0_3
 have HAB := Aside0.mk hr1_3
 have hl : l2_2.length ≤ 9223372036854775807 := hr2_2.2.1
 clear hr0_3 hc0_3 hr1_3 hc1_3 hr2_0 hc2_0 hr2_2 hc2_2 h
 have eg := enters41
 go_enter Try.func24, Try.ntmps24
 go_wp2
 obtain ⟨W0, hW0⟩ : ∃ W0, (((w.alloc (.cells #[.int .i64 a0_0, .int .i64 a0_1, .int .i64 a0_2, .slice A0_3 l0_3.length c0_3] 49)).alloc (.cells #[.int .i64 a1_0, .int .i64 a1_1, .int .i64 a1_2, .slice A1_3 l1_3.length c1_3] 49)).alloc (.cells #[.slice A2_0 l2_0.length c2_0, .string a2_1, .slice A2_2 l2_2.length c2_2, .int .i64 a2_3] 29)) = W0 := ⟨_, rfl⟩
 rw [hW0]
 have hB0 : Below w.heap.size w W0 := by rw [← hW0]; exact below_alloc (below_alloc (below_alloc (Below.refl _ _) _) _) _
 have hz : w.heap.size + 1 + 2 ≤ W0.heap.size := by rw [← hW0]; simp
 have ha3 : W0.cell? ⟨w.heap.size, 3, none⟩ = some (.slice A0_3 l0_3.length c0_3) := by rw [← hW0]; exact cell3_0 _ _ _ _ _ _ _ rfl
 have hb3 : W0.cell? ⟨w.heap.size + 1, 3, none⟩ = some (.slice A1_3 l1_3.length c1_3) := by rw [← hW0]; exact cell3_1 _ _ _ _ _ _ _ rfl
 have hd3 : W0.cell? ⟨w.heap.size + 1 + 1, 3, none⟩ = some (.int .i64 a2_3) := by rw [← hW0]; exact cell3_2 _ _ _ _ _ _ _ rfl
 have HA3 := Aside0.mk ha3
 have HB3 := Aside0.mk hb3
 have HD3 := Aside0.mk hd3
 have HZ := Aside0.mk hz
 have HB0 := Aside0.mk hB0
 clear hW0 hB0 hz ha3 hb3 hd3
 go_loopw [14] (fun v14 w' => ∃ n : Nat, v14 = .int .i64 n ∧ n ≤ l2_2.length ∧ Aside0 (∀ j : Nat, j < n → alikeB l0_3 l1_3 (rd l2_2 j) = true) ∧ Aside0 (Below W0.heap.size W0 w')) (fun v14 _ => l2_2.length - (intOf v14).toNat)
 case atStart => exact ⟨0, rfl, Nat.zero_le _, ⟨fun j hj => absurd hj (by omega)⟩, ⟨Below.refl _ _⟩⟩
 case round =>
  obtain ⟨n, rfl, hn, HN, HB⟩ := hrel
  have hz := HZ.out
  have ha3 : wr.cell? ⟨w.heap.size, 3, none⟩ = some (.slice A0_3 l0_3.length c0_3) := (HB.out.cell (p := ⟨w.heap.size, 3, none⟩) (by show w.heap.size < _; omega)).trans HA3.out
  have hb3 : wr.cell? ⟨w.heap.size + 1, 3, none⟩ = some (.slice A1_3 l1_3.length c1_3) := (HB.out.cell (p := ⟨w.heap.size + 1, 3, none⟩) (by show w.heap.size + 1 < _; omega)).trans HB3.out
  have hd3 : wr.cell? ⟨w.heap.size + 1 + 1, 3, none⟩ = some (.int .i64 a2_3) := (HB.out.cell (p := ⟨w.heap.size + 1 + 1, 3, none⟩) (by show w.heap.size + 1 + 1 < _; omega)).trans HD3.out
  have HBW := Aside0.mk (HB0.out.trans (HB.out.mono (by omega)))
  have HLW := Aside0.mk (show w.heap.size + 1 + 1 < wr.heap.size from Nat.lt_of_lt_of_le (by omega) HB.out.size)
  have HRW := Aside0.mk (Kd.C_below HR.out HBW.out)
  have HAW := Aside0.mk (Kd.C_below HA.out HBW.out)
  have HBBW := Aside0.mk (Kd.C_below HAB.out HBW.out)
  clear hz HA3 HB3 HD3 HZ HB0
  by_cases hlt : n < l2_2.length
  ·obtain ⟨ad, e1, hx0⟩ := Kd.at_int HRW.out n (by omega) (by omega)
   cases e1
   simp only [Int.toNat_natCast] at hx0
   have HP := Aside0.mk hlt
   obtain ⟨f, hf⟩ : ∃ f, rd l2_2 n = f := ⟨_, rfl⟩
   rw [hf] at hx0
   have HFX := Aside0.mk hf
   clear hf
   have HO := Aside0.mk (inside_calls w.heap.size (w.heap.size + 1) l0_3.length l1_3.length A0_3 A1_3 c0_3 c1_3 f wr ha3 hb3 (by have := HLW.out; omega) (by have := HLW.out; omega))
   cases ho : insB l0_3.length l1_3.length f
   ·have HQ := Aside0.mk ho
    go_wp2_with (((with_reducible refine (HO.out _ ?hb).mono ?_); (case hb => repeat (first | exact Below.refl _ _ | apply pw_below_drewN | apply below_drew1)); rintro e w' ⟨rfl, ⟨nd, rfl⟩⟩; rw [ho]; (try first | exact ⟨rfl, _, World.drewN_drewN _ _ _⟩ | exact ⟨rfl, _, Eq.trans (World.drewN_drewN _ _ _) (congrArg (World.drewN _) (Nat.add_assoc _ _ _))⟩)))
    repeat (go_quiet (((with_reducible refine (HO.out _ ?hb).mono ?_); (case hb => repeat (first | exact Below.refl _ _ | apply pw_below_drewN | apply below_drew1)); rintro e w' ⟨rfl, ⟨nd, rfl⟩⟩; rw [ho]; (try first | exact ⟨rfl, _, World.drewN_drewN _ _ _⟩ | exact ⟨rfl, _, Eq.trans (World.drewN_drewN _ _ _) (congrArg (World.drewN _) (Nat.add_assoc _ _ _))⟩))); try go_wp2_with (((with_reducible refine (HO.out _ ?hb).mono ?_); (case hb => repeat (first | exact Below.refl _ _ | apply pw_below_drewN | apply below_drew1)); rintro e w' ⟨rfl, ⟨nd, rfl⟩⟩; rw [ho]; (try first | exact ⟨rfl, _, World.drewN_drewN _ _ _⟩ | exact ⟨rfl, _, Eq.trans (World.drewN_drewN _ _ _) (congrArg (World.drewN _) (Nat.add_assoc _ _ _))⟩))))
    go_ret
    exact ⟨by rw [← HV.out, brk_false (n := n) HP.out (by rw [HFX.out, alikeB, HQ.out]; rfl)]; rfl, by repeat (first | exact HBW.out | apply pw_below_drewN | apply below_drew1)⟩
   ·have HQ := Aside0.mk ho
    obtain ⟨q0, q1, q2⟩ := insB_iff.1 ho
    obtain ⟨ada, ea, hy0⟩ := Kd.at_int HAW.out f q0 q1
    obtain ⟨adb, eb, hz0⟩ := Kd.at_int HBBW.out f q0 q2
    cases ea
    cases eb
    replace q0 := eq_true q0
    replace q1 := eq_true q1
    replace q2 := eq_true q2
    cases hne : (rd l0_3 f != rd l1_3 f)
    ·have HNE := Aside0.mk hne
     go_wp2_with (((with_reducible refine (HO.out _ ?hb).mono ?_); (case hb => repeat (first | exact Below.refl _ _ | apply pw_below_drewN | apply below_drew1)); rintro e w' ⟨rfl, ⟨nd, rfl⟩⟩; rw [ho]; (try first | exact ⟨rfl, _, World.drewN_drewN _ _ _⟩ | exact ⟨rfl, _, Eq.trans (World.drewN_drewN _ _ _) (congrArg (World.drewN _) (Nat.add_assoc _ _ _))⟩)))
     repeat (go_quiet (((with_reducible refine (HO.out _ ?hb).mono ?_); (case hb => repeat (first | exact Below.refl _ _ | apply pw_below_drewN | apply below_drew1)); rintro e w' ⟨rfl, ⟨nd, rfl⟩⟩; rw [ho]; (try first | exact ⟨rfl, _, World.drewN_drewN _ _ _⟩ | exact ⟨rfl, _, Eq.trans (World.drewN_drewN _ _ _) (congrArg (World.drewN _) (Nat.add_assoc _ _ _))⟩))); try go_wp2_with (((with_reducible refine (HO.out _ ?hb).mono ?_); (case hb => repeat (first | exact Below.refl _ _ | apply pw_below_drewN | apply below_drew1)); rintro e w' ⟨rfl, ⟨nd, rfl⟩⟩; rw [ho]; (try first | exact ⟨rfl, _, World.drewN_drewN _ _ _⟩ | exact ⟨rfl, _, Eq.trans (World.drewN_drewN _ _ _) (congrArg (World.drewN _) (Nat.add_assoc _ _ _))⟩))))
     go_roundw
     case rel =>
      refine ⟨n + 1, (by go_num), HP.out, ⟨fun j hj => ?_⟩, ⟨by repeat (first | exact HB.out | apply pw_below_drewN | apply below_drew1)⟩⟩
      rcases Nat.lt_or_ge j n with h | h
      ·exact HN.out j h
      ·obtain rfl : j = n := by omega
       rw [HFX.out, alikeB, HQ.out]
       have := HNE.out
       simp only [bne_eq_false_iff_eq] at this
       simp [this]
     case measure => have := HP.out; simp [intOf]; omega
    ·have HNE := Aside0.mk hne
     go_wp2_with (((with_reducible refine (HO.out _ ?hb).mono ?_); (case hb => repeat (first | exact Below.refl _ _ | apply pw_below_drewN | apply below_drew1)); rintro e w' ⟨rfl, ⟨nd, rfl⟩⟩; rw [ho]; (try first | exact ⟨rfl, _, World.drewN_drewN _ _ _⟩ | exact ⟨rfl, _, Eq.trans (World.drewN_drewN _ _ _) (congrArg (World.drewN _) (Nat.add_assoc _ _ _))⟩)))
     repeat (go_quiet (((with_reducible refine (HO.out _ ?hb).mono ?_); (case hb => repeat (first | exact Below.refl _ _ | apply pw_below_drewN | apply below_drew1)); rintro e w' ⟨rfl, ⟨nd, rfl⟩⟩; rw [ho]; (try first | exact ⟨rfl, _, World.drewN_drewN _ _ _⟩ | exact ⟨rfl, _, Eq.trans (World.drewN_drewN _ _ _) (congrArg (World.drewN _) (Nat.add_assoc _ _ _))⟩))); try go_wp2_with (((with_reducible refine (HO.out _ ?hb).mono ?_); (case hb => repeat (first | exact Below.refl _ _ | apply pw_below_drewN | apply below_drew1)); rintro e w' ⟨rfl, ⟨nd, rfl⟩⟩; rw [ho]; (try first | exact ⟨rfl, _, World.drewN_drewN _ _ _⟩ | exact ⟨rfl, _, Eq.trans (World.drewN_drewN _ _ _) (congrArg (World.drewN _) (Nat.add_assoc _ _ _))⟩))))
     go_ret
     exact ⟨by rw [← HV.out, brk_false (n := n) HP.out (by rw [HFX.out, alikeB, HQ.out]; have := HNE.out; simp only [bne, Bool.not_eq_true'] at this; rw [this]; rfl)]; rfl, by repeat (first | exact HBW.out | apply pw_below_drewN | apply below_drew1)⟩
  ·have HALL : Aside0 (l2_2.all (alikeB l0_3 l1_3) = true) := ⟨by
    rw [List.all_eq_true]
    intro x hx
    obtain ⟨j, hj, rfl⟩ := List.getElem_of_mem hx
    rw [← rd_at3 l2_2 j hj]
    exact HN.out j (Nat.lt_of_lt_of_le hj (Nat.le_of_not_lt hlt))⟩
   obtain ⟨f, hf⟩ : ∃ f, a2_3 = f := ⟨_, rfl⟩
   subst hf
   have HO := Aside0.mk (inside_calls w.heap.size (w.heap.size + 1) l0_3.length l1_3.length A0_3 A1_3 c0_3 c1_3 a2_3 wr ha3 hb3 (by have := HLW.out; omega) (by have := HLW.out; omega))
   cases ho : insB l0_3.length l1_3.length a2_3
   ·have HQ := Aside0.mk ho
    go_wp2_with (((with_reducible refine (HO.out _ ?hb).mono ?_); (case hb => repeat (first | exact Below.refl _ _ | apply pw_below_drewN | apply below_drew1)); rintro e w' ⟨rfl, ⟨nd, rfl⟩⟩; rw [ho]; (try first | exact ⟨rfl, _, World.drewN_drewN _ _ _⟩ | exact ⟨rfl, _, Eq.trans (World.drewN_drewN _ _ _) (congrArg (World.drewN _) (Nat.add_assoc _ _ _))⟩)))
    repeat (go_quiet (((with_reducible refine (HO.out _ ?hb).mono ?_); (case hb => repeat (first | exact Below.refl _ _ | apply pw_below_drewN | apply below_drew1)); rintro e w' ⟨rfl, ⟨nd, rfl⟩⟩; rw [ho]; (try first | exact ⟨rfl, _, World.drewN_drewN _ _ _⟩ | exact ⟨rfl, _, Eq.trans (World.drewN_drewN _ _ _) (congrArg (World.drewN _) (Nat.add_assoc _ _ _))⟩))); try go_wp2_with (((with_reducible refine (HO.out _ ?hb).mono ?_); (case hb => repeat (first | exact Below.refl _ _ | apply pw_below_drewN | apply below_drew1)); rintro e w' ⟨rfl, ⟨nd, rfl⟩⟩; rw [ho]; (try first | exact ⟨rfl, _, World.drewN_drewN _ _ _⟩ | exact ⟨rfl, _, Eq.trans (World.drewN_drewN _ _ _) (congrArg (World.drewN _) (Nat.add_assoc _ _ _))⟩))))
    go_ret
    exact ⟨by rw [← HV.out, brk, HALL.out, HQ.out]; rfl, by repeat (first | exact HBW.out | apply pw_below_drewN | apply below_drew1)⟩
   ·have HQ := Aside0.mk ho
    obtain ⟨q0, q1, q2⟩ := insB_iff.1 ho
    obtain ⟨ada, ea, hy0⟩ := Kd.at_int HAW.out a2_3 q0 q1
    obtain ⟨adb, eb, hz0⟩ := Kd.at_int HBBW.out a2_3 q0 q2
    cases ea
    cases eb
    replace q0 := eq_true q0
    replace q1 := eq_true q1
    replace q2 := eq_true q2
    have HNE : Aside0 (∀ r0, (rd l0_3 a2_3 != rd l1_3 a2_3) = r0 → r0 = r) := ⟨fun r0 e => by rw [← HV.out, brk, HALL.out, HQ.out, ← e]; simp⟩
    go_wp2_with (((with_reducible refine (HO.out _ ?hb).mono ?_); (case hb => repeat (first | exact Below.refl _ _ | apply pw_below_drewN | apply below_drew1)); rintro e w' ⟨rfl, ⟨nd, rfl⟩⟩; rw [ho]; (try first | exact ⟨rfl, _, World.drewN_drewN _ _ _⟩ | exact ⟨rfl, _, Eq.trans (World.drewN_drewN _ _ _) (congrArg (World.drewN _) (Nat.add_assoc _ _ _))⟩)))
    repeat (go_quiet (((with_reducible refine (HO.out _ ?hb).mono ?_); (case hb => repeat (first | exact Below.refl _ _ | apply pw_below_drewN | apply below_drew1)); rintro e w' ⟨rfl, ⟨nd, rfl⟩⟩; rw [ho]; (try first | exact ⟨rfl, _, World.drewN_drewN _ _ _⟩ | exact ⟨rfl, _, Eq.trans (World.drewN_drewN _ _ _) (congrArg (World.drewN _) (Nat.add_assoc _ _ _))⟩))); try go_wp2_with (((with_reducible refine (HO.out _ ?hb).mono ?_); (case hb => repeat (first | exact Below.refl _ _ | apply pw_below_drewN | apply below_drew1)); rintro e w' ⟨rfl, ⟨nd, rfl⟩⟩; rw [ho]; (try first | exact ⟨rfl, _, World.drewN_drewN _ _ _⟩ | exact ⟨rfl, _, Eq.trans (World.drewN_drewN _ _ _) (congrArg (World.drewN _) (Nat.add_assoc _ _ _))⟩))))
    go_ret
    exact ⟨by rw [← HNE.out _ rfl]; rfl, by repeat (first | exact HBW.out | apply pw_below_drewN | apply below_drew1)⟩
end Go.Proofs.Ytfbcjeknibfjcaa.P
