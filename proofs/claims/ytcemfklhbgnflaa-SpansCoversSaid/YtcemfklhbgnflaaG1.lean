/- slices.IndexFunc, slices.ContainsFunc over spans; Check; Has. -/
import Derived.Test.YtcemfklhbgnflaaP0
namespace Go.Proofs.Ytcemfklhbgnflaa.P
open Go.RowKit Go.Proofs.YtcemfklhbgnflaaW.PrintWords Go.Proofs.YtcemfklhbgnflaaW.PrintLast Go.Proofs.YtcemfklhbgnflaaW.PrintMore

/-! ### slices.IndexFunc, slices.ContainsFunc over spans, whatever the function -/
def IdxPost (b : Bool) (w : World) (e : Ending) (w' : World) : Prop := ∃ i : Int, e = .returned (.int .i64 i) ∧ decide (i ≥ 0) = b ∧ Below w.heap.size w w'
theorem below2 {w w1 w2 : World} (h : Below w.heap.size w w1) (k : Below w1.heap.size w1 w2) : Below w.heap.size w w2 := h.trans (k.mono h.size)
theorem any_all_false {α : Type} {p : α → Bool} {l : List α} {n : Nat} (hn : l.length ≤ n) (h : ∀ j (_ : j < n) (hl : j < l.length), p l[j] = false) : l.any p = false := by
  rw [List.any_eq_false]
  intro x hx
  obtain ⟨j, hj, rfl⟩ := List.getElem_of_mem hx
  simp [h j (by omega) hj]
theorem rd_at (l : List S31) (n : Nat) (h : n < l.length) : rd_T31 l (n : Int) = l[n] := by simp [rd_T31, h]
set_option maxHeartbeats 400000 in
theorem index_calls (g : FuncId) (caps : Array Value) (p : S31 → Bool) (A0 : Option Addr) (c0 : Nat) (l0 : List S31) (w : World) (hr0 : Kd.C k31 w A0 l0.length l0)
    (eg : ∀ args w, (callFunc g args).run Try.prog w = .ok (.enter g args) w)
    (hf : ∀ x W, Below w.heap.size w W → Calls Try.prog g (#[.agg #[.int .i64 x.f0, .int .i64 x.f1]] ++ caps) W fun e w' => e = .returned (.bool (p x)) ∧ Below W.heap.size W w') :
    Calls Try.prog 37 #[.slice A0 l0.length c0, .func (.func g) #[] caps] w (IdxPost (l0.any p) w) := by
  have hu := Try.underlying31
  have HF := Aside0.mk hf
  have HR := Aside0.mk hr0
  have hl : l0.length ≤ 9223372036854775807 := hr0.2.1
  clear hf hr0
  go_enter Try.func37, Try.ntmps37
  go_wp2
  go_loopw [8] (fun v8 w' => ∃ n : Nat, v8 = .int .i64 n ∧ n ≤ l0.length ∧ Aside0 (∀ j (_ : j < n) (hl : j < l0.length), p l0[j] = false) ∧ Aside0 (Below w.heap.size w w')) (fun v8 _ => l0.length - (intOf v8).toNat)
  case atStart => exact ⟨0, rfl, Nat.zero_le _, ⟨fun j hj => absurd hj (by omega)⟩, ⟨Below.refl _ _⟩⟩
  case round =>
    obtain ⟨n, rfl, hn, HN, HB⟩ := hrel
    by_cases hlt : n < l0.length
    · obtain ⟨ad, e1, hx0, hx1⟩ := at_T31 (Kd.C_below HR.out HB.out) n (by omega) (by omega)
      cases e1
      simp only [Int.toNat_natCast] at hx0 hx1
      have HP := Aside0.mk (rd_at l0 n hlt)
      have hc := HF.out (rd_T31 l0 n) wr HB.out
      have HC := Aside0.mk hc
      clear hc
      cases hp : p (rd_T31 l0 n)
      · have HQ := Aside0.mk hp
        go_wp2_with ((with_reducible refine HC.out.mono ?_); rintro e w1 ⟨rfl, hb1⟩; rw [hp])
        go_roundw
        case rel =>
          refine ⟨n + 1, by go_num, hlt, ⟨fun j hj hl => ?_⟩, ⟨below2 HB.out hb1⟩⟩
          rcases Nat.lt_or_ge j n with h | h
          · exact HN.out j h hl
          · obtain rfl : j = n := by omega
            rw [← rd_at l0 j hl]
            exact HQ.out
        case measure => simp [intOf]; omega
      · have HQ := Aside0.mk hp
        go_wp2_with ((with_reducible refine HC.out.mono ?_); rintro e w1 ⟨rfl, hb1⟩; rw [hp])
        go_ret
        refine ⟨n, rfl, ?_, below2 HB.out hb1⟩
        rw [show l0.any p = true from List.any_eq_true.2 ⟨l0[n], List.getElem_mem _, by rw [← rd_at l0 n hlt]; exact HQ.out⟩]
        simp
    · have HA := Aside0.mk (any_all_false (by omega) HN.out)
      go_wp2
      go_ret
      refine ⟨-1, rfl, ?_, HB.out⟩
      rw [HA.out]
      simp
set_option maxHeartbeats 400000 in
theorem contains_calls (g : FuncId) (caps : Array Value) (p : S31 → Bool) (A0 : Option Addr) (c0 : Nat) (l0 : List S31) (w : World) (hr0 : Kd.C k31 w A0 l0.length l0)
    (eg : ∀ args w, (callFunc g args).run Try.prog w = .ok (.enter g args) w)
    (hf : ∀ x W, Below w.heap.size w W → Calls Try.prog g (#[.agg #[.int .i64 x.f0, .int .i64 x.f1]] ++ caps) W fun e w' => e = .returned (.bool (p x)) ∧ Below W.heap.size W w') :
    Calls Try.prog 28 #[.slice A0 l0.length c0, .func (.func g) #[] caps] w fun e w' => e = .returned (.bool (l0.any p)) ∧ Below w.heap.size w w' := by
  have HI := Aside0.mk (index_calls g caps p A0 c0 l0 w hr0 eg hf)
  clear hf hr0 eg
  go_enter Try.func28, Try.ntmps28
  go_wp2_with (go_at_call 37; (with_reducible refine HI.out.mono ?_); rintro e w1 ⟨i, rfl, hi, hb⟩; have HQ := Aside0.mk hi; clear hi)
  go_ret
  exact ⟨by rw [← HQ.out]; rfl, hb⟩

/-! ### Check -/
def badSpan (x : S31) : Bool := decide (x.f0 < 0) || decide (x.f0 ≥ x.f1) || decide (x.f1 > 1024)
set_option maxHeartbeats 400000 in
theorem check1_calls (x : S31) (w : World) : Calls Try.prog 29 #[.agg #[.int .i64 x.f0, .int .i64 x.f1]] w fun e w' => e = .returned (.bool (badSpan x)) ∧ Below w.heap.size w w' := by
  have hu := Try.underlying31
  unfold badSpan
  by_cases h1 : x.f0 < 0
  · go_enter Try.func29, Try.ntmps29
    go_wp2
    go_ret
    exact ⟨by simp [h1], (Below.refl _ _).alloc (Nat.le_refl _) _⟩
  · by_cases h2 : x.f0 ≥ x.f1
    · go_enter Try.func29, Try.ntmps29
      go_wp2
      go_ret
      exact ⟨by simp [h2], (Below.refl _ _).alloc (Nat.le_refl _) _⟩
    · go_enter Try.func29, Try.ntmps29
      go_wp2
      go_ret
      exact ⟨by simp at h1 h2 ⊢; intro h; omega, (Below.refl _ _).alloc (Nat.le_refl _) _⟩
def spans_Check.f (l0 : List S31) : Option Int := some (if l0.any badSpan then 30 else 0)
theorem enters29 : ∀ args w, (callFunc 29 args).run Try.prog w = .ok (.enter 29 args) w := enters_ Try.func29 (by kernel_rfl) rfl
theorem spans_Check.calls (A0 : Option Addr) (c0 : Nat) (l0 : List (S31)) (r : Int) (w : World) (hr0 : Kd.C k31 w A0 l0.length l0) (hc0 : l0.length ≤ c0) (h : spans_Check.f l0 = some r) :
    Calls Try.prog 12 #[.slice A0 l0.length c0] w fun e w' => e = .returned (.int .i64 r) ∧ Below w.heap.size w w' := by
  have HI := Aside0.mk (contains_calls 29 #[] badSpan A0 c0 l0 w hr0 enters29 (fun x W _ => by simpa using check1_calls x W))
  obtain rfl := Option.some.inj h
  clear h hr0
  cases hb : l0.any badSpan
  · have HQ := Aside0.mk hb
    go_enter Try.func12, Try.ntmps12
    go_wp2_with (go_at_call 28; (with_reducible refine HI.out.mono ?_); rintro e w1 ⟨rfl, hb1⟩; rw [hb])
    go_ret
    exact ⟨by simp, hb1⟩
  · have HQ := Aside0.mk hb
    go_enter Try.func12, Try.ntmps12
    go_wp2_with (go_at_call 28; (with_reducible refine HI.out.mono ?_); rintro e w1 ⟨rfl, hb1⟩; rw [hb])
    go_ret
    exact ⟨by simp, hb1⟩
/-! ### Has -/
def hasDay (day : Int) (s : S31) : Bool := decide (s.f0 ≤ day) && decide (day < s.f1)
set_option maxHeartbeats 400000 in
theorem has1_calls (x : S31) (day : Int) (b : Nat) (w : World) (hc : w.cell? ⟨b, 0, none⟩ = some (.int .i64 day)) (hb : b < w.heap.size) :
    Calls Try.prog 36 #[.agg #[.int .i64 x.f0, .int .i64 x.f1], .pointer (some ⟨b, 0, none⟩)] w fun e w' => e = .returned (.bool (hasDay day x)) ∧ Below w.heap.size w w' := by
  have hu := Try.underlying31
  unfold hasDay
  have hc' : ∀ o, (w.alloc o).cell? ⟨b, 0, none⟩ = some (.int .i64 day) := fun o => by rw [World.cell?_alloc_lt _ _ _ hb]; exact hc
  by_cases h1 : x.f0 ≤ day
  · go_enter Try.func36, Try.ntmps36
    go_wp2
    go_ret
    exact ⟨by simp [h1], (Below.refl _ _).alloc (Nat.le_refl _) _⟩
  · go_enter Try.func36, Try.ntmps36
    go_wp2
    go_ret
    exact ⟨by simp at h1 ⊢; intro h; omega, (Below.refl _ _).alloc (Nat.le_refl _) _⟩
def spans_Has.f (l0 : List S31) (a1 : Int) : Option Bool := some (decide (0 ≤ a1) && decide (a1 < 1024) && l0.any (hasDay a1))
theorem enters36 : ∀ args w, (callFunc 36 args).run Try.prog w = .ok (.enter 36 args) w := enters_ Try.func36 (by kernel_rfl) rfl
set_option maxHeartbeats 400000 in
theorem spans_Has.calls (A0 : Option Addr) (c0 : Nat) (l0 : List (S31)) (a1 : Int) (r : Bool) (w : World) (hr0 : Kd.C k31 w A0 l0.length l0) (hc0 : l0.length ≤ c0) (h : spans_Has.f l0 a1 = some r) :
    Calls Try.prog 23 #[.slice A0 l0.length c0, .int .i64 a1] w fun e w' => e = .returned (.bool r) ∧ Below w.heap.size w w' := by
  have hb0 : Below w.heap.size w (w.alloc (.cells #[.int .i64 a1] 3)) := (Below.refl _ _).alloc (Nat.le_refl _) _
  have HI := Aside0.mk (contains_calls 36 #[.pointer (some ⟨w.heap.size, 0, none⟩)] (hasDay a1) A0 c0 l0 (w.alloc (.cells #[.int .i64 a1] 3)) (Kd.C_below hr0 hb0) enters36 (fun x W hW => by
    have hc : W.cell? ⟨w.heap.size, 0, none⟩ = some (.int .i64 a1) := (hW.cell (p := ⟨w.heap.size, 0, none⟩) (by simp)).trans (by simp)
    exact has1_calls x a1 w.heap.size W hc (World.block_lt_of_cell? W _ hc)))
  obtain rfl := Option.some.inj h
  clear h hr0
  by_cases h1 : 0 ≤ a1
  · by_cases h2 : a1 < 1024
    · go_enter Try.func23, Try.ntmps23
      go_wp2_with (go_at_call 28; (with_reducible refine HI.out.mono ?_); rintro e w1 ⟨rfl, hb1⟩)
      go_ret
      exact ⟨by simp [h1, h2], hb0.trans (hb1.mono (by simp))⟩
    · go_enter Try.func23, Try.ntmps23
      go_wp2
      go_ret
      exact ⟨by simp [h2]; omega, hb0⟩
  · go_enter Try.func23, Try.ntmps23
    go_wp2
    go_ret
    exact ⟨by simp [h1]; omega, hb0⟩

end Go.Proofs.Ytcemfklhbgnflaa.P
