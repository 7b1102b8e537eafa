/- slices.IndexFunc, slices.ContainsFunc over dependencies, instances and numbers; slices.Index, slices.Contains over numbers. Written by r13g1.py. -/
import Derived.Test.YtfbcjeknibfjcaaP0
import Derived.Test.YtfbcjeknibfjcaaH
namespace Go.Proofs.Ytfbcjeknibfjcaa.P
open Go.RowKit Go.Proofs.YtfbcjeknibfjcaaW.PrintWords Go.Proofs.YtfbcjeknibfjcaaW.PrintLast Go.Proofs.YtfbcjeknibfjcaaW.PrintMore
set_option linter.unusedVariables false

def IdxPost (b : Bool) (w : World) (e : Ending) (w' : World) : Prop := ∃ i : Int, e = .returned (.int .i64 i) ∧ decide (i ≥ 0) = b ∧ Below w.heap.size w w'
theorem below2 {w w1 w2 : World} (h : Below w.heap.size w w1) (k : Below w1.heap.size w1 w2) : Below w.heap.size w w2 := h.trans (k.mono h.size)
theorem any_all_false {α : Type} {p : α → Bool} {l : List α} {n : Nat} (hn : l.length ≤ n) (h : ∀ j (_ : j < n) (hl : j < l.length), p l[j] = false) : l.any p = false := by
  rw [List.any_eq_false]
  intro x hx
  obtain ⟨j, hj, rfl⟩ := List.getElem_of_mem hx
  simp [h j (by omega) hj]
theorem rd_at3 (l : List Int) (n : Nat) (h : n < l.length) : rd l (n : Int) = l[n] := by simp [rd, h]
theorem rd_at29 (l : List S29) (n : Nat) (h : n < l.length) : rd_T29 l (n : Int) = l[n] := by simp [rd_T29, h]
theorem rd_at49 (l : List S49) (n : Nat) (h : n < l.length) : rd_T49 l (n : Int) = l[n] := by simp [rd_T49, h]
def FunAt3 (g : FuncId) (caps : Array Value) (p : Int → Bool) (w : World) (l : List Int) : Prop := ∀ x ∈ l, ∀ W, Below w.heap.size w W → Calls Try.prog g (#[.int .i64 x] ++ caps) W fun e w' => e = .returned (.bool (p x)) ∧ Below W.heap.size W w'
def FunAt29 (g : FuncId) (caps : Array Value) (p : S29 → Bool) (w : World) : Prop := ∀ (x : S29) W A0 c0 A2 c2, Below w.heap.size w W → x.f0.length ≤ c0 → Kd.string.C W A0 x.f0.length x.f0 → x.f2.length ≤ c2 → (Kd.int .i64).C W A2 x.f2.length x.f2 → Calls Try.prog g (#[.agg #[.slice A0 x.f0.length c0, .string x.f1, .slice A2 x.f2.length c2, .int .i64 x.f3]] ++ caps) W fun e w' => e = .returned (.bool (p x)) ∧ Below W.heap.size W w'
def FunAt49 (g : FuncId) (caps : Array Value) (p : S49 → Bool) (w : World) : Prop := ∀ (x : S49) W A3 c3, Below w.heap.size w W → x.f3.length ≤ c3 → (Kd.int .i64).C W A3 x.f3.length x.f3 → Calls Try.prog g (#[.agg #[.int .i64 x.f0, .int .i64 x.f1, .int .i64 x.f2, .slice A3 x.f3.length c3]] ++ caps) W fun e w' => e = .returned (.bool (p x)) ∧ Below W.heap.size W w'
set_option maxHeartbeats 400000 in
theorem index3_calls (g : FuncId) (caps : Array Value) (p : Int → Bool) (A0 : Option Addr) (c0 : Nat) (l0 : List Int) (w : World) (hr0 : Kd.C (Kd.int .i64) w A0 l0.length l0)
    (eg : ∀ args w, (callFunc g args).run Try.prog w = .ok (.enter g args) w) (hf : FunAt3 g caps p w l0) :
    Calls Try.prog 47 #[.slice A0 l0.length c0, .func (.func g) #[] caps] w (IdxPost (l0.any p) w) := by
  have HF := Aside0.mk hf
  have HR := Aside0.mk hr0
  have hl : l0.length ≤ 9223372036854775807 := hr0.2.1
  clear hf hr0
  go_enter Try.func47, Try.ntmps47
  go_wp2
  go_loopw [8] (fun v8 w' => ∃ n : Nat, v8 = .int .i64 n ∧ n ≤ l0.length ∧ Aside0 (∀ j (_ : j < n) (hl : j < l0.length), p l0[j] = false) ∧ Aside0 (Below w.heap.size w w')) (fun v8 _ => l0.length - (intOf v8).toNat)
  case atStart => exact ⟨0, rfl, Nat.zero_le _, ⟨fun j hj => absurd hj (by omega)⟩, ⟨Below.refl _ _⟩⟩
  case round =>
    obtain ⟨n, rfl, hn, HN, HB⟩ := hrel
    by_cases hlt : n < l0.length
    · obtain ⟨ad, e1, hx0⟩ := Kd.at_int (Kd.C_below HR.out HB.out) n (by omega) (by omega)
      cases e1
      have HP := Aside0.mk (rd_at3 l0 n hlt)
      have hc := HF.out (rd l0 n) (by rw [rd_at3 l0 n hlt]; exact List.getElem_mem _) wr HB.out
      have HC := Aside0.mk hc
      clear hc
      simp only [Int.toNat_natCast] at hx0
      cases hp : p (rd l0 n)
      · have HQ := Aside0.mk hp
        go_wp2_with ((with_reducible refine HC.out.mono ?_); rintro e w1 ⟨rfl, hb1⟩; rw [hp])
        go_roundw
        case rel =>
          refine ⟨n + 1, by go_num, hlt, ⟨fun j hj hl => ?_⟩, ⟨below2 HB.out hb1⟩⟩
          rcases Nat.lt_or_ge j n with h | h
          · exact HN.out j h hl
          · obtain rfl : j = n := by omega
            rw [← rd_at3 l0 j hl]
            exact HQ.out
        case measure => simp [intOf]; omega
      · have HQ := Aside0.mk hp
        go_wp2_with ((with_reducible refine HC.out.mono ?_); rintro e w1 ⟨rfl, hb1⟩; rw [hp])
        go_ret
        refine ⟨n, rfl, ?_, below2 HB.out hb1⟩
        rw [show l0.any p = true from List.any_eq_true.2 ⟨l0[n], List.getElem_mem _, by rw [← rd_at3 l0 n hlt]; exact HQ.out⟩]
        simp
    · have HA := Aside0.mk (any_all_false (by omega) HN.out)
      go_wp2
      go_ret
      refine ⟨-1, rfl, ?_, HB.out⟩
      rw [HA.out]
      simp
set_option maxHeartbeats 400000 in
theorem contains3_calls (g : FuncId) (caps : Array Value) (p : Int → Bool) (A0 : Option Addr) (c0 : Nat) (l0 : List Int) (w : World) (hr0 : Kd.C (Kd.int .i64) w A0 l0.length l0)
    (eg : ∀ args w, (callFunc g args).run Try.prog w = .ok (.enter g args) w) (hf : FunAt3 g caps p w l0) :
    Calls Try.prog 38 #[.slice A0 l0.length c0, .func (.func g) #[] caps] w fun e w' => e = .returned (.bool (l0.any p)) ∧ Below w.heap.size w w' := by
  have HI := Aside0.mk (index3_calls g caps p A0 c0 l0 w hr0 eg hf)
  clear hf hr0 eg
  go_enter Try.func38, Try.ntmps38
  go_wp2_with (go_at_call 47; (with_reducible refine HI.out.mono ?_); rintro e w1 ⟨i, rfl, hi, hb⟩; have HQ := Aside0.mk hi; clear hi)
  go_ret
  exact ⟨by rw [← HQ.out]; rfl, hb⟩
set_option maxHeartbeats 400000 in
theorem index29_calls (g : FuncId) (caps : Array Value) (p : S29 → Bool) (A0 : Option Addr) (c0 : Nat) (l0 : List S29) (w : World) (hr0 : Kd.C k29 w A0 l0.length l0)
    (eg : ∀ args w, (callFunc g args).run Try.prog w = .ok (.enter g args) w) (hf : FunAt29 g caps p w) :
    Calls Try.prog 44 #[.slice A0 l0.length c0, .func (.func g) #[] caps] w (IdxPost (l0.any p) w) := by
  have hu := Try.underlying29
  have HF := Aside0.mk hf
  have HR := Aside0.mk hr0
  have hl : l0.length ≤ 9223372036854775807 := hr0.2.1
  clear hf hr0
  go_enter Try.func44, Try.ntmps44
  go_wp2
  go_loopw [8] (fun v8 w' => ∃ n : Nat, v8 = .int .i64 n ∧ n ≤ l0.length ∧ Aside0 (∀ j (_ : j < n) (hl : j < l0.length), p l0[j] = false) ∧ Aside0 (Below w.heap.size w w')) (fun v8 _ => l0.length - (intOf v8).toNat)
  case atStart => exact ⟨0, rfl, Nat.zero_le _, ⟨fun j hj => absurd hj (by omega)⟩, ⟨Below.refl _ _⟩⟩
  case round =>
    obtain ⟨n, rfl, hn, HN, HB⟩ := hrel
    by_cases hlt : n < l0.length
    · obtain ⟨ad, A0', c0', A2', c2', e1, hx0, hx1, hx2, hx3, hl0, hg0, hl2, hg2⟩ := at_T29 (Kd.C_below HR.out HB.out) n (by omega) (by omega)
      cases e1
      have HP := Aside0.mk (rd_at29 l0 n hlt)
      have hc := HF.out (rd_T29 l0 n) wr A0' c0' A2' c2' HB.out hl0 hg0 hl2 hg2
      have HC := Aside0.mk hc
      clear hc
      simp only [Int.toNat_natCast] at hx0 hx1 hx2 hx3
      cases hp : p (rd_T29 l0 n)
      · have HQ := Aside0.mk hp
        go_wp2_with ((with_reducible refine HC.out.mono ?_); rintro e w1 ⟨rfl, hb1⟩; rw [hp])
        go_roundw
        case rel =>
          refine ⟨n + 1, by go_num, hlt, ⟨fun j hj hl => ?_⟩, ⟨below2 HB.out hb1⟩⟩
          rcases Nat.lt_or_ge j n with h | h
          · exact HN.out j h hl
          · obtain rfl : j = n := by omega
            rw [← rd_at29 l0 j hl]
            exact HQ.out
        case measure => simp [intOf]; omega
      · have HQ := Aside0.mk hp
        go_wp2_with ((with_reducible refine HC.out.mono ?_); rintro e w1 ⟨rfl, hb1⟩; rw [hp])
        go_ret
        refine ⟨n, rfl, ?_, below2 HB.out hb1⟩
        rw [show l0.any p = true from List.any_eq_true.2 ⟨l0[n], List.getElem_mem _, by rw [← rd_at29 l0 n hlt]; exact HQ.out⟩]
        simp
    · have HA := Aside0.mk (any_all_false (by omega) HN.out)
      go_wp2
      go_ret
      refine ⟨-1, rfl, ?_, HB.out⟩
      rw [HA.out]
      simp
set_option maxHeartbeats 400000 in
theorem contains29_calls (g : FuncId) (caps : Array Value) (p : S29 → Bool) (A0 : Option Addr) (c0 : Nat) (l0 : List S29) (w : World) (hr0 : Kd.C k29 w A0 l0.length l0)
    (eg : ∀ args w, (callFunc g args).run Try.prog w = .ok (.enter g args) w) (hf : FunAt29 g caps p w) :
    Calls Try.prog 33 #[.slice A0 l0.length c0, .func (.func g) #[] caps] w fun e w' => e = .returned (.bool (l0.any p)) ∧ Below w.heap.size w w' := by
  have HI := Aside0.mk (index29_calls g caps p A0 c0 l0 w hr0 eg hf)
  clear hf hr0 eg
  go_enter Try.func33, Try.ntmps33
  go_wp2_with (go_at_call 44; (with_reducible refine HI.out.mono ?_); rintro e w1 ⟨i, rfl, hi, hb⟩; have HQ := Aside0.mk hi; clear hi)
  go_ret
  exact ⟨by rw [← HQ.out]; rfl, hb⟩
set_option maxHeartbeats 400000 in
theorem index49_calls (g : FuncId) (caps : Array Value) (p : S49 → Bool) (A0 : Option Addr) (c0 : Nat) (l0 : List S49) (w : World) (hr0 : Kd.C k49 w A0 l0.length l0)
    (eg : ∀ args w, (callFunc g args).run Try.prog w = .ok (.enter g args) w) (hf : FunAt49 g caps p w) :
    Calls Try.prog 45 #[.slice A0 l0.length c0, .func (.func g) #[] caps] w (IdxPost (l0.any p) w) := by
  have hu := Try.underlying49
  have HF := Aside0.mk hf
  have HR := Aside0.mk hr0
  have hl : l0.length ≤ 9223372036854775807 := hr0.2.1
  clear hf hr0
  go_enter Try.func45, Try.ntmps45
  go_wp2
  go_loopw [8] (fun v8 w' => ∃ n : Nat, v8 = .int .i64 n ∧ n ≤ l0.length ∧ Aside0 (∀ j (_ : j < n) (hl : j < l0.length), p l0[j] = false) ∧ Aside0 (Below w.heap.size w w')) (fun v8 _ => l0.length - (intOf v8).toNat)
  case atStart => exact ⟨0, rfl, Nat.zero_le _, ⟨fun j hj => absurd hj (by omega)⟩, ⟨Below.refl _ _⟩⟩
  case round =>
    obtain ⟨n, rfl, hn, HN, HB⟩ := hrel
    by_cases hlt : n < l0.length
    · obtain ⟨ad, A3', c3', e1, hx0, hx1, hx2, hx3, hl3, hg3⟩ := at_T49 (Kd.C_below HR.out HB.out) n (by omega) (by omega)
      cases e1
      have HP := Aside0.mk (rd_at49 l0 n hlt)
      have hc := HF.out (rd_T49 l0 n) wr A3' c3' HB.out hl3 hg3
      have HC := Aside0.mk hc
      clear hc
      simp only [Int.toNat_natCast] at hx0 hx1 hx2 hx3
      cases hp : p (rd_T49 l0 n)
      · have HQ := Aside0.mk hp
        go_wp2_with ((with_reducible refine HC.out.mono ?_); rintro e w1 ⟨rfl, hb1⟩; rw [hp])
        go_roundw
        case rel =>
          refine ⟨n + 1, by go_num, hlt, ⟨fun j hj hl => ?_⟩, ⟨below2 HB.out hb1⟩⟩
          rcases Nat.lt_or_ge j n with h | h
          · exact HN.out j h hl
          · obtain rfl : j = n := by omega
            rw [← rd_at49 l0 j hl]
            exact HQ.out
        case measure => simp [intOf]; omega
      · have HQ := Aside0.mk hp
        go_wp2_with ((with_reducible refine HC.out.mono ?_); rintro e w1 ⟨rfl, hb1⟩; rw [hp])
        go_ret
        refine ⟨n, rfl, ?_, below2 HB.out hb1⟩
        rw [show l0.any p = true from List.any_eq_true.2 ⟨l0[n], List.getElem_mem _, by rw [← rd_at49 l0 n hlt]; exact HQ.out⟩]
        simp
    · have HA := Aside0.mk (any_all_false (by omega) HN.out)
      go_wp2
      go_ret
      refine ⟨-1, rfl, ?_, HB.out⟩
      rw [HA.out]
      simp
set_option maxHeartbeats 400000 in
theorem contains49_calls (g : FuncId) (caps : Array Value) (p : S49 → Bool) (A0 : Option Addr) (c0 : Nat) (l0 : List S49) (w : World) (hr0 : Kd.C k49 w A0 l0.length l0)
    (eg : ∀ args w, (callFunc g args).run Try.prog w = .ok (.enter g args) w) (hf : FunAt49 g caps p w) :
    Calls Try.prog 35 #[.slice A0 l0.length c0, .func (.func g) #[] caps] w fun e w' => e = .returned (.bool (l0.any p)) ∧ Below w.heap.size w w' := by
  have HI := Aside0.mk (index49_calls g caps p A0 c0 l0 w hr0 eg hf)
  clear hf hr0 eg
  go_enter Try.func35, Try.ntmps35
  go_wp2_with (go_at_call 45; (with_reducible refine HI.out.mono ?_); rintro e w1 ⟨i, rfl, hi, hb⟩; have HQ := Aside0.mk hi; clear hi)
  go_ret
  exact ⟨by rw [← HQ.out]; rfl, hb⟩
set_option maxHeartbeats 400000 in
theorem indexOf_calls (v : Int) (A0 : Option Addr) (c0 : Nat) (l0 : List Int) (w : World) (hr0 : Kd.C (Kd.int .i64) w A0 l0.length l0) :
    Calls Try.prog 48 #[.slice A0 l0.length c0, .int .i64 v] w (IdxPost (l0.any (· == v)) w) := by
  have HR := Aside0.mk hr0
  have hl : l0.length ≤ 9223372036854775807 := hr0.2.1
  clear hr0
  go_enter Try.func48, Try.ntmps48
  go_wp2
  go_loopw [8] (fun v8 w' => ∃ n : Nat, v8 = .int .i64 n ∧ n ≤ l0.length ∧ Aside0 (∀ j (_ : j < n) (hl : j < l0.length), (l0[j] == v) = false) ∧ Aside0 (Below w.heap.size w w')) (fun v8 _ => l0.length - (intOf v8).toNat)
  case atStart => exact ⟨0, rfl, Nat.zero_le _, ⟨fun j hj => absurd hj (by omega)⟩, ⟨Below.refl _ _⟩⟩
  case round =>
    obtain ⟨n, rfl, hn, HN, HB⟩ := hrel
    by_cases hlt : n < l0.length
    · obtain ⟨ad, e1, hx0⟩ := Kd.at_int (Kd.C_below HR.out HB.out) n (by omega) (by omega)
      cases e1
      have HP := Aside0.mk (rd_at3 l0 n hlt)
      simp only [Int.toNat_natCast] at hx0
      cases hp : (v == rd l0 n)
      · have HQ := Aside0.mk hp
        go_wp2
        go_roundw
        case rel =>
          refine ⟨n + 1, by go_num, hlt, ⟨fun j hj hl => ?_⟩, ⟨HB.out⟩⟩
          rcases Nat.lt_or_ge j n with h | h
          · exact HN.out j h hl
          · obtain rfl : j = n := by omega
            rw [← rd_at3 l0 j hl, BEq.comm]
            exact HQ.out
        case measure => simp [intOf]; omega
      · have HQ := Aside0.mk hp
        go_wp2
        go_ret
        refine ⟨n, rfl, ?_, HB.out⟩
        rw [show l0.any (· == v) = true from List.any_eq_true.2 ⟨l0[n], List.getElem_mem _, by rw [← rd_at3 l0 n hlt, BEq.comm]; exact HQ.out⟩]
        simp
    · have HA := Aside0.mk (any_all_false (p := (· == v)) (by omega) HN.out)
      go_wp2
      go_ret
      refine ⟨-1, rfl, ?_, HB.out⟩
      rw [HA.out]
      simp
theorem containsOf_calls (v : Int) (A0 : Option Addr) (c0 : Nat) (l0 : List Int) (w : World) (hr0 : Kd.C (Kd.int .i64) w A0 l0.length l0) :
    Calls Try.prog 43 #[.slice A0 l0.length c0, .int .i64 v] w fun e w' => e = .returned (.bool (l0.any (· == v))) ∧ Below w.heap.size w w' := by
  have HI := Aside0.mk (indexOf_calls v A0 c0 l0 w hr0)
  clear hr0
  go_enter Try.func43, Try.ntmps43
  go_wp2_with (go_at_call 48; (with_reducible refine HI.out.mono ?_); rintro e w1 ⟨i, rfl, hi, hb⟩; have HQ := Aside0.mk hi; clear hi)
  go_ret
  exact ⟨by rw [← HQ.out]; rfl, hb⟩
end Go.Proofs.Ytfbcjeknibfjcaa.P
