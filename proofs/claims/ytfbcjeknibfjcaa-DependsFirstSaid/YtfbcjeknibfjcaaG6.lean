/- depends.Broken: its closures; what it searches. -/
import Derived.Test.YtfbcjeknibfjcaaG5
namespace Go.Proofs.Ytfbcjeknibfjcaa.P
open Go.RowKit Go.Shelf Go.Proofs.YtfbcjeknibfjcaaR Go.Proofs.YtfbcjeknibfjcaaW.PrintWords Go.Proofs.YtfbcjeknibfjcaaW.PrintLast Go.Proofs.YtfbcjeknibfjcaaW.PrintMore
set_option linter.unusedVariables false

/-! ### pairs, the closures -/
theorem pairs_calls (n : Int) (w : World) : Calls Try.prog 37 #[.int .i64 n] w fun e w' => e = .returned (.func (.func 46) #[] #[.pointer (some ⟨w.heap.size, 0, none⟩)]) ∧ w' = w.alloc (.cells #[.int .i64 n] 3) := by
  go_enter Try.func37, Try.ntmps37
  go_wp2
  go_ret
  exact ⟨rfl, rfl⟩
theorem enters36 : ∀ args w, (callFunc 36 args).run Try.prog w = .ok (.enter 36 args) w := enters_ Try.func36 (by kernel_rfl) rfl
theorem enters39 : ∀ args w, (callFunc 39 args).run Try.prog w = .ok (.enter 39 args) w := enters_ Try.func39 (by kernel_rfl) rfl
theorem enters46 : ∀ args w, (callFunc 46 args).run Try.prog w = .ok (.enter 46 args) w := enters_ Try.func46 (by kernel_rfl) rfl
set_option maxHeartbeats 1000000 in
theorem broken1_calls (b n : Nat) (A : Option Addr) (c : Nat) (w : World) (hb : b < w.heap.size) (h4 : w.cell? ⟨b, 4, none⟩ = some (.slice A n c)) :
    FunAt49 36 #[.pointer (some ⟨b, 0, none⟩)] (fun x => x.f3.length != n) w := by
  intro x W A3 c3 hB hl3 hg3
  have hu25 := Try.underlying25
  have hu49 := Try.underlying49
  have hB1 : Below w.heap.size w (W.alloc (.cells #[.int .i64 x.f0, .int .i64 x.f1, .int .i64 x.f2, .slice A3 x.f3.length c3] 49)) := below_alloc hB _
  have g4 : (W.alloc (.cells #[.int .i64 x.f0, .int .i64 x.f1, .int .i64 x.f2, .slice A3 x.f3.length c3] 49)).cell? ⟨b, 4, none⟩ = some (.slice A n c) := (hB1.cell (p := ⟨b, 4, none⟩) hb).trans h4
  clear hB1 hB hl3 hg3 h4
  show Calls Try.prog 36 #[.agg #[.int .i64 x.f0, .int .i64 x.f1, .int .i64 x.f2, .slice A3 x.f3.length c3], .pointer (some ⟨b, 0, none⟩)] W _
  cases hq : (x.f3.length != n)
  · have hq2 : ((x.f3.length : Int) != (n : Int)) = false := by simp at hq ⊢; omega
    have HQ := Aside0.mk hq
    go_enter Try.func36, Try.ntmps36
    go_wp2
    repeat (go_quiet (fail); try go_wp2)
    go_ret
    exact ⟨by rw [HQ.out]; rfl, by repeat (first | exact Below.refl _ _ | apply below_alloc | apply pw_below_drewN | apply below_drew1)⟩
  · have hq2 : ((x.f3.length : Int) != (n : Int)) = true := by simp at hq ⊢; omega
    have HQ := Aside0.mk hq
    go_enter Try.func36, Try.ntmps36
    go_wp2
    repeat (go_quiet (fail); try go_wp2)
    go_ret
    exact ⟨by rw [HQ.out]; rfl, by repeat (first | exact Below.refl _ _ | apply below_alloc | apply pw_below_drewN | apply below_drew1)⟩
set_option maxHeartbeats 1000000 in
theorem broken2_calls (bx bY : Nat) (X Y : List Int) (Ax Ay : Option Addr) (cx cy : Nat) (f : Int) (W : World) (hx : W.cell? ⟨bx, 0, none⟩ = some (.slice Ax X.length cx)) (hy : W.cell? ⟨bY, 0, none⟩ = some (.slice Ay Y.length cy))
    (hX : Kd.C (Kd.int .i64) W Ax X.length X) (hY : Kd.C (Kd.int .i64) W Ay Y.length Y) (h0 : 0 ≤ f) (h1 : f < X.length) (h2 : f < Y.length) :
    Calls Try.prog 39 #[.int .i64 f, .pointer (some ⟨bx, 0, none⟩), .pointer (some ⟨bY, 0, none⟩)] W fun e w' => e = .returned (.bool (rd X f != rd Y f)) ∧ Below W.heap.size W w' := by
  obtain ⟨ax, e1, hx0⟩ := Kd.at_int hX f h0 h1
  obtain ⟨ay, e2, hy0⟩ := Kd.at_int hY f h0 h2
  cases e1
  cases e2
  clear hX hY
  replace h0 := eq_true h0
  replace h1 := eq_true h1
  replace h2 := eq_true h2
  go_enter Try.func39, Try.ntmps39
  go_wp2
  repeat (go_quiet (fail); try go_wp2)
  go_ret
  exact ⟨rfl, by repeat (first | exact Below.refl _ _ | apply below_alloc | apply pw_below_drewN | apply below_drew1)⟩
end Go.Proofs.Ytfbcjeknibfjcaa.P
