/- depends.Check. -/
import Derived.Test.YtfbcjeknibfjcaaG2
namespace Go.Proofs.Ytfbcjeknibfjcaa.P
open Go.RowKit Go.Proofs.YtfbcjeknibfjcaaW.PrintWords Go.Proofs.YtfbcjeknibfjcaaW.PrintLast Go.Proofs.YtfbcjeknibfjcaaW.PrintMore
set_option linter.unusedVariables false

def chk (n : Nat) (l : List S29) : Bool := decide (1 ≤ n) && (decide (n ≤ 12) && (decide (l.length ≤ 12) && !l.any fun d => !vld n d.f2 d.f3))
theorem enters34 : ∀ args w, (callFunc 34 args).run Try.prog w = .ok (.enter 34 args) w := enters_ Try.func34 (by kernel_rfl) rfl
set_option maxHeartbeats 1000000 in
set_option maxRecDepth 100000 in
theorem check1_calls (b : Nat) (a0_0 : ByteArray) (a0_1 : ByteArray) (a0_2 : Int) (a0_3 : Int) (A0_4 : Option Addr) (c0_4 : Nat) (l0_4 : List S97) (A0_5 : Option Addr) (c0_5 : Nat) (l0_5 : List S29) (w : World)
    (hb : b < w.heap.size)
    (h0 : w.cell? ⟨b, 0, none⟩ = some (.string a0_0)) (h1 : w.cell? ⟨b, 1, none⟩ = some (.string a0_1)) (h2 : w.cell? ⟨b, 2, none⟩ = some (.int .i64 a0_2)) (h3 : w.cell? ⟨b, 3, none⟩ = some (.int .i64 a0_3)) (h4 : w.cell? ⟨b, 4, none⟩ = some (.slice A0_4 l0_4.length c0_4)) (h5 : w.cell? ⟨b, 5, none⟩ = some (.slice A0_5 l0_5.length c0_5))
    (hr0_4 : Kd.C k97 w A0_4 l0_4.length l0_4) (hc0_4 : l0_4.length ≤ c0_4) (hr0_5 : Kd.C k29 w A0_5 l0_5.length l0_5) (hc0_5 : l0_5.length ≤ c0_5) :
    FunAt29 34 #[.pointer (some ⟨b, 0, none⟩)] (fun d => !vld l0_4.length d.f2 d.f3) w := by
  intro x W B0 d0 B2 d2 hB hl0 hg0 hl2 hg2
  have hu25 := Try.underlying25
  have hu29 := Try.underlying29
  have hB1 : Below w.heap.size w (W.alloc (.cells #[.slice B0 x.f0.length d0, .string x.f1, .slice B2 x.f2.length d2, .int .i64 x.f3] 29)) := below_alloc hB _
  have g0 : (W.alloc (.cells #[.slice B0 x.f0.length d0, .string x.f1, .slice B2 x.f2.length d2, .int .i64 x.f3] 29)).cell? ⟨b, 0, none⟩ = some (.string a0_0) := (hB1.cell (p := ⟨b, 0, none⟩) hb).trans h0
  have g1 : (W.alloc (.cells #[.slice B0 x.f0.length d0, .string x.f1, .slice B2 x.f2.length d2, .int .i64 x.f3] 29)).cell? ⟨b, 1, none⟩ = some (.string a0_1) := (hB1.cell (p := ⟨b, 1, none⟩) hb).trans h1
  have g2 : (W.alloc (.cells #[.slice B0 x.f0.length d0, .string x.f1, .slice B2 x.f2.length d2, .int .i64 x.f3] 29)).cell? ⟨b, 2, none⟩ = some (.int .i64 a0_2) := (hB1.cell (p := ⟨b, 2, none⟩) hb).trans h2
  have g3 : (W.alloc (.cells #[.slice B0 x.f0.length d0, .string x.f1, .slice B2 x.f2.length d2, .int .i64 x.f3] 29)).cell? ⟨b, 3, none⟩ = some (.int .i64 a0_3) := (hB1.cell (p := ⟨b, 3, none⟩) hb).trans h3
  have g4 : (W.alloc (.cells #[.slice B0 x.f0.length d0, .string x.f1, .slice B2 x.f2.length d2, .int .i64 x.f3] 29)).cell? ⟨b, 4, none⟩ = some (.slice A0_4 l0_4.length c0_4) := (hB1.cell (p := ⟨b, 4, none⟩) hb).trans h4
  have g5 : (W.alloc (.cells #[.slice B0 x.f0.length d0, .string x.f1, .slice B2 x.f2.length d2, .int .i64 x.f3] 29)).cell? ⟨b, 5, none⟩ = some (.slice A0_5 l0_5.length c0_5) := (hB1.cell (p := ⟨b, 5, none⟩) hb).trans h5
  obtain ⟨r, hr⟩ : ∃ r, vld l0_4.length x.f2 x.f3 = r := ⟨_, rfl⟩
  have hcall := depends_valid.calls a0_0 a0_1 a0_2 a0_3 A0_4 c0_4 l0_4 A0_5 c0_5 l0_5 B0 d0 x.f0 x.f1 B2 d2 x.f2 x.f3 r (W.alloc (.cells #[.slice B0 x.f0.length d0, .string x.f1, .slice B2 x.f2.length d2, .int .i64 x.f3] 29)) (Kd.C_below hr0_4 hB1) hc0_4 (Kd.C_below hr0_5 hB1) hc0_5 (Kd.C_alloc hg0 _) hl0 (Kd.C_alloc hg2 _) hl2 (by rw [depends_valid.f, hr])
  have HC := Aside0.mk hcall
  have HQ := Aside0.mk hr
  clear hcall hB hB1 hl0 hg0 hl2 hg2 h0 h1 h2 h3 h4 h5 hr0_4 hc0_4 hr0_5 hc0_5 hr
  show Calls Try.prog 34 #[.agg #[.slice B0 x.f0.length d0, .string x.f1, .slice B2 x.f2.length d2, .int .i64 x.f3], .pointer (some ⟨b, 0, none⟩)] W _
  go_enter Try.func34, Try.ntmps34
  go_wp2_with (go_at_call 30; (with_reducible refine HC.out.mono ?_); rintro e w1 ⟨rfl, hb1⟩)
  go_ret
  exact ⟨by rw [HQ.out]; rfl, (below_alloc (Below.refl _ W) _).trans (hb1.mono (by simp))⟩
def depends_Check.f (a0_0 : ByteArray) (a0_1 : ByteArray) (a0_2 : Int) (a0_3 : Int) (l0_4 : List S97) (l0_5 : List S29) : Option Int := some (if chk l0_4.length l0_5 = true then 0 else 130)
set_option maxHeartbeats 4000000 in
set_option maxRecDepth 100000 in
theorem depends_Check.calls (a0_0 : ByteArray) (a0_1 : ByteArray) (a0_2 : Int) (a0_3 : Int) (A0_4 : Option Addr) (c0_4 : Nat) (l0_4 : List S97) (A0_5 : Option Addr) (c0_5 : Nat) (l0_5 : List S29) (r : Int) (w : World) (hr0_4 : Kd.C k97 w A0_4 l0_4.length l0_4) (hc0_4 : l0_4.length ≤ c0_4) (hr0_5 : Kd.C k29 w A0_5 l0_5.length l0_5) (hc0_5 : l0_5.length ≤ c0_5) (h : depends_Check.f a0_0 a0_1 a0_2 a0_3 l0_4 l0_5 = some r) :
    Calls Try.prog 16 #[.agg #[.string a0_0, .string a0_1, .int .i64 a0_2, .int .i64 a0_3, .slice A0_4 l0_4.length c0_4, .slice A0_5 l0_5.length c0_5]] w fun e w' => e = .returned (.int .i64 r) ∧ Below w.heap.size w w' := by
  have HV := Aside0.mk (Option.some.inj h)
  have hu25 := Try.underlying25
  obtain ⟨W0, hW0⟩ : ∃ W0, w.alloc (.cells #[.string a0_0, .string a0_1, .int .i64 a0_2, .int .i64 a0_3, .slice A0_4 l0_4.length c0_4, .slice A0_5 l0_5.length c0_5] 25) = W0 := ⟨_, rfl⟩
  have hB0 : Below w.heap.size w W0 := by rw [← hW0]; exact below_alloc (Below.refl _ _) _
  have hz : w.heap.size < W0.heap.size := by rw [← hW0]; simp
  have hs0 : W0.cell? ⟨w.heap.size, 0, none⟩ = some (.string a0_0) := by rw [← hW0]; simp
  have hs1 : W0.cell? ⟨w.heap.size, 1, none⟩ = some (.string a0_1) := by rw [← hW0]; simp
  have hs2 : W0.cell? ⟨w.heap.size, 2, none⟩ = some (.int .i64 a0_2) := by rw [← hW0]; simp
  have hs3 : W0.cell? ⟨w.heap.size, 3, none⟩ = some (.int .i64 a0_3) := by rw [← hW0]; simp
  have hs4 : W0.cell? ⟨w.heap.size, 4, none⟩ = some (.slice A0_4 l0_4.length c0_4) := by rw [← hW0]; simp
  have hs5 : W0.cell? ⟨w.heap.size, 5, none⟩ = some (.slice A0_5 l0_5.length c0_5) := by rw [← hW0]; simp
  have HF := Aside0.mk (check1_calls w.heap.size a0_0 a0_1 a0_2 a0_3 A0_4 c0_4 l0_4 A0_5 c0_5 l0_5 W0 hz hs0 hs1 hs2 hs3 hs4 hs5 (Kd.C_below hr0_4 hB0) hc0_4 (Kd.C_below hr0_5 hB0) hc0_5)
  have HR := Aside0.mk (Kd.C_below hr0_5 hB0)
  have HB := Aside0.mk hB0
  clear hr0_4 hr0_5 hc0_4 hc0_5 h hB0 hz hs0 hs1 hs2 hs3 hs4 hs5
  subst hW0
  by_cases c1 : 1 ≤ l0_4.length
  · have d1 : decide ((l0_4.length : Int) < 1) = false := decide_eq_false (by omega)
    have E1 := Aside0.mk (decide_eq_true c1)
    by_cases c2 : l0_4.length ≤ 12
    · have d2 : decide ((12 : Int) < (l0_4.length : Int)) = false := decide_eq_false (by omega)
      have E2 := Aside0.mk (decide_eq_true c2)
      by_cases c3 : l0_5.length ≤ 12
      · have d3 : decide ((12 : Int) < (l0_5.length : Int)) = false := decide_eq_false (by omega)
        have E3 := Aside0.mk (decide_eq_true c3)
        have HI := Aside0.mk (contains29_calls 34 #[.pointer (some ⟨w.heap.size, 0, none⟩)] _ A0_5 c0_5 l0_5 _ HR.out enters34 HF.out)
        cases hp : l0_5.any (fun d => !vld l0_4.length d.f2 d.f3)
        · have HQ := Aside0.mk hp
          go_enter Try.func16, Try.ntmps16
          go_wp2_with (go_at_call 33; (with_reducible refine HI.out.mono ?_); rintro e w1 ⟨rfl, hb1⟩; rw [hp])
          go_ret
          exact ⟨by rw [← HV.out]; simp only [chk, E1.out, E2.out, E3.out, HQ.out]; rfl, HB.out.trans (hb1.mono HB.out.size)⟩
        · have HQ := Aside0.mk hp
          go_enter Try.func16, Try.ntmps16
          go_wp2_with (go_at_call 33; (with_reducible refine HI.out.mono ?_); rintro e w1 ⟨rfl, hb1⟩; rw [hp])
          go_ret
          exact ⟨by rw [← HV.out]; simp only [chk, E1.out, E2.out, E3.out, HQ.out]; rfl, HB.out.trans (hb1.mono HB.out.size)⟩
      · have d3 : decide ((12 : Int) < (l0_5.length : Int)) = true := decide_eq_true (by omega)
        have E3 := Aside0.mk (decide_eq_false c3)
        go_enter Try.func16, Try.ntmps16
        go_wp2
        repeat (go_quiet (fail); try go_wp2)
        go_ret
        exact ⟨by rw [← HV.out]; simp only [chk, E1.out, E2.out, E3.out]; rfl, by repeat (first | exact HB.out | apply below_alloc | apply pw_below_drewN | apply below_drew1)⟩
    · have d2 : decide ((12 : Int) < (l0_4.length : Int)) = true := decide_eq_true (by omega)
      have E2 := Aside0.mk (decide_eq_false c2)
      go_enter Try.func16, Try.ntmps16
      go_wp2
      repeat (go_quiet (fail); try go_wp2)
      go_ret
      exact ⟨by rw [← HV.out]; simp only [chk, E1.out, E2.out]; rfl, by repeat (first | exact HB.out | apply below_alloc | apply pw_below_drewN | apply below_drew1)⟩
  · have d1 : decide ((l0_4.length : Int) < 1) = true := decide_eq_true (by omega)
    have E1 := Aside0.mk (decide_eq_false c1)
    go_enter Try.func16, Try.ntmps16
    go_wp2
    repeat (go_quiet (fail); try go_wp2)
    go_ret
    exact ⟨by rw [← HV.out]; simp only [chk, E1.out]; rfl, by repeat (first | exact HB.out | apply below_alloc | apply pw_below_drewN | apply below_drew1)⟩
end Go.Proofs.Ytfbcjeknibfjcaa.P
