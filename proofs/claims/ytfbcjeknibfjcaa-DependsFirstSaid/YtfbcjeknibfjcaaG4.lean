/- The law's breaks. -/
import Derived.Test.YtfbcjeknibfjcaaG3
namespace Go.Proofs.Ytfbcjeknibfjcaa.P
open Go.RowKit Go.Proofs.YtfbcjeknibfjcaaW.PrintWords Go.Proofs.YtfbcjeknibfjcaaW.PrintLast Go.Proofs.YtfbcjeknibfjcaaW.PrintMore
set_option linter.unusedVariables false

def insB (na nb : Nat) (f : Int) : Bool := decide (0 ≤ f) && (decide (f < (na : Int)) && decide (f < (nb : Int)))
theorem insB_iff {na nb : Nat} {f : Int} : insB na nb f = true ↔ 0 ≤ f ∧ f < na ∧ f < nb := by simp [insB]
set_option maxHeartbeats 400000 in
theorem inside_calls (ba bb na nb : Nat) (Aa Ab : Option Addr) (ca cb : Nat) (f : Int) (W' : World) (ha' : W'.cell? ⟨ba, 3, none⟩ = some (.slice Aa na ca)) (hb' : W'.cell? ⟨bb, 3, none⟩ = some (.slice Ab nb cb)) (hba : ba < W'.heap.size) (hbb : bb < W'.heap.size) (W : World) (hB : Below W'.heap.size W' W) :
    Calls Try.prog 41 #[.int .i64 f, .pointer (some ⟨ba, 0, none⟩), .pointer (some ⟨bb, 0, none⟩)] W fun e w' => e = .returned (.bool (insB na nb f)) ∧ Drawn0 W w' := by
  have ha : W.cell? ⟨ba, 3, none⟩ = some (.slice Aa na ca) := (hB.cell (p := ⟨ba, 3, none⟩) hba).trans ha'
  have hb : W.cell? ⟨bb, 3, none⟩ = some (.slice Ab nb cb) := (hB.cell (p := ⟨bb, 3, none⟩) hbb).trans hb'
  clear ha' hb' hba hbb hB
  have hu := Try.underlying49
  cases h0 : decide (0 ≤ f)
  · have HQ := Aside0.mk h0
    go_enter Try.func41, Try.ntmps41
    go_wp2
    repeat (go_quiet (fail); try go_wp2)
    go_ret
    exact ⟨by rw [insB, HQ.out]; rfl, by repeat (first | exact Drawn0.refl _ | apply Drawn0.step)⟩
  · cases h1 : decide (f < (na : Int))
    · have HQ := Aside0.mk h0
      have HQ1 := Aside0.mk h1
      go_enter Try.func41, Try.ntmps41
      go_wp2
      repeat (go_quiet (fail); try go_wp2)
      go_ret
      exact ⟨by rw [insB, HQ.out, HQ1.out]; rfl, by repeat (first | exact Drawn0.refl _ | apply Drawn0.step)⟩
    · cases h2 : decide (f < (nb : Int))
      · have HQ := Aside0.mk h0
        have HQ1 := Aside0.mk h1
        have HQ2 := Aside0.mk h2
        go_enter Try.func41, Try.ntmps41
        go_wp2
        repeat (go_quiet (fail); try go_wp2)
        go_ret
        exact ⟨by rw [insB, HQ.out, HQ1.out, HQ2.out]; rfl, by repeat (first | exact Drawn0.refl _ | apply Drawn0.step)⟩
      · have HQ := Aside0.mk h0
        have HQ1 := Aside0.mk h1
        have HQ2 := Aside0.mk h2
        go_enter Try.func41, Try.ntmps41
        go_wp2
        repeat (go_quiet (fail); try go_wp2)
        go_ret
        exact ⟨by rw [insB, HQ.out, HQ1.out, HQ2.out]; rfl, by repeat (first | exact Drawn0.refl _ | apply Drawn0.step)⟩
def alikeB (va vb : List Int) (f : Int) : Bool := insB va.length vb.length f && (rd va f == rd vb f)
def brk (va vb l : List Int) (tx : Int) : Bool := l.all (alikeB va vb) && (insB va.length vb.length tx && (rd va tx != rd vb tx))
theorem enters41 : ∀ args w, (callFunc 41 args).run Try.prog w = .ok (.enter 41 args) w := enters_ Try.func41 (by kernel_rfl) rfl
theorem brk_false {va vb l : List Int} {tx : Int} {n : Nat} (hn : n < l.length) (h : alikeB va vb (rd l n) = false) : brk va vb l tx = false := by
  have : l.all (alikeB va vb) = false := by
    rw [List.all_eq_false]
    exact ⟨l[n], List.getElem_mem _, by rw [← rd_at3 l n hn, h]; simp⟩
  simp [brk, this]
theorem cell3_0 (w : World) (o p : Obj) (cs : Array Value) (e k : Nat) (v : Value) (h : cs[k]? = some v) : (((w.alloc (.cells cs e)).alloc o).alloc p).cell? ⟨w.heap.size, k, none⟩ = some v :=
  (blk_cell (blk_alloc (blk_alloc (blk_new w (.cells cs e)) o) p) k).trans h
theorem cell3_1 (w : World) (o p : Obj) (cs : Array Value) (e k : Nat) (v : Value) (h : cs[k]? = some v) : (((w.alloc o).alloc (.cells cs e)).alloc p).cell? ⟨w.heap.size + 1, k, none⟩ = some v := by
  have := (blk_cell (blk_alloc (blk_new (w.alloc o) (.cells cs e)) p) k)
  rw [show (w.alloc o).heap.size = w.heap.size + 1 from by simp] at this
  exact this.trans h
theorem cell3_2 (w : World) (o p : Obj) (cs : Array Value) (e k : Nat) (v : Value) (h : cs[k]? = some v) : (((w.alloc o).alloc p).alloc (.cells cs e)).cell? ⟨w.heap.size + 1 + 1, k, none⟩ = some v := by
  have := (blk_cell (blk_new ((w.alloc o).alloc p) (.cells cs e)) k)
  rw [show ((w.alloc o).alloc p).heap.size = w.heap.size + 1 + 1 from by simp] at this
  exact this.trans h
def testamurlaw13_breaks.f (a0_0 : Int) (a0_1 : Int) (a0_2 : Int) (l0_3 : List Int) (a1_0 : Int) (a1_1 : Int) (a1_2 : Int) (l1_3 : List Int) (l2_0 : List ByteArray) (a2_1 : ByteArray) (l2_2 : List Int) (a2_3 : Int) : Option Bool := some (brk l0_3 l1_3 l2_2 a2_3)
set_option maxHeartbeats 4000000 in
set_option maxRecDepth 100000 in
theorem testamurlaw13_breaks.calls (a0_0 : Int) (a0_1 : Int) (a0_2 : Int) (A0_3 : Option Addr) (c0_3 : Nat) (l0_3 : List Int) (a1_0 : Int) (a1_1 : Int) (a1_2 : Int) (A1_3 : Option Addr) (c1_3 : Nat) (l1_3 : List Int) (A2_0 : Option Addr) (c2_0 : Nat) (l2_0 : List ByteArray) (a2_1 : ByteArray) (A2_2 : Option Addr) (c2_2 : Nat) (l2_2 : List Int) (a2_3 : Int) (r : Bool) (w : World) (hr0_3 : Kd.C (Kd.int .i64) w A0_3 l0_3.length l0_3) (hc0_3 : l0_3.length ≤ c0_3) (hr1_3 : Kd.C (Kd.int .i64) w A1_3 l1_3.length l1_3) (hc1_3 : l1_3.length ≤ c1_3) (hr2_0 : Kd.C Kd.string w A2_0 l2_0.length l2_0) (hc2_0 : l2_0.length ≤ c2_0) (hr2_2 : Kd.C (Kd.int .i64) w A2_2 l2_2.length l2_2) (hc2_2 : l2_2.length ≤ c2_2) (h : testamurlaw13_breaks.f a0_0 a0_1 a0_2 l0_3 a1_0 a1_1 a1_2 l1_3 l2_0 a2_1 l2_2 a2_3 = some r) :
    Calls Try.prog 24 #[.agg #[.int .i64 a0_0, .int .i64 a0_1, .int .i64 a0_2, .slice A0_3 l0_3.length c0_3], .agg #[.int .i64 a1_0, .int .i64 a1_1, .int .i64 a1_2, .slice A1_3 l1_3.length c1_3], .agg #[.slice A2_0 l2_0.length c2_0, .string a2_1, .slice A2_2 l2_2.length c2_2, .int .i64 a2_3]] w fun e w' => e = .returned (.bool r) ∧ Below w.heap.size w w' := by
  have HV := Aside0.mk (Option.some.inj h)
  have hu49 := Try.underlying49
  have hu29 := Try.underlying29
  have HR := Aside0.mk hr2_2
  have HA := Aside0.mk hr0_3
  have HAB := Aside0.mk hr1_3
  have hl : l2_2.length ≤ 9223372036854775807 := hr2_2.2.1
  clear hr0_3 hc0_3 hr1_3 hc1_3 hr2_0 hc2_0 hr2_2 hc2_2 h
  have eg := enters41
  go_enter Try.func24, Try.ntmps24
  go_wp2
  obtain ⟨W0, hW0⟩ : ∃ W0, (((w.alloc (.cells #[.int .i64 a0_0, .int .i64 a0_1, .int .i64 a0_2, .slice A0_3 l0_3.length c0_3] 49)).alloc (.cells #[.int .i64 a1_0, .int .i64 a1_1, .int .i64 a1_2, .slice A1_3 l1_3.length c1_3] 49)).alloc (.cells #[.slice A2_0 l2_0.length c2_0, .string a2_1, .slice A2_2 l2_2.length c2_2, .int .i64 a2_3] 29)) = W0 := ⟨_, rfl⟩
  rw [hW0]
  have hB0 : Below w.heap.size w W0 := by rw [← hW0]; exact below_alloc (below_alloc (below_alloc (Below.refl _ _) _) _) _
  have hz : w.heap.size + 1 + 2 ≤ W0.heap.size := by rw [← hW0]; simp
  have ha3 : W0.cell? ⟨w.heap.size, 3, none⟩ = some (.slice A0_3 l0_3.length c0_3) := by rw [← hW0]; exact cell3_0 _ _ _ _ _ _ _ rfl
  have hb3 : W0.cell? ⟨w.heap.size + 1, 3, none⟩ = some (.slice A1_3 l1_3.length c1_3) := by rw [← hW0]; exact cell3_1 _ _ _ _ _ _ _ rfl
  have hd3 : W0.cell? ⟨w.heap.size + 1 + 1, 3, none⟩ = some (.int .i64 a2_3) := by rw [← hW0]; exact cell3_2 _ _ _ _ _ _ _ rfl
  have HA3 := Aside0.mk ha3
  have HB3 := Aside0.mk hb3
  have HD3 := Aside0.mk hd3
  have HZ := Aside0.mk hz
  have HB0 := Aside0.mk hB0
  clear hW0 hB0 hz ha3 hb3 hd3
  go_loopw [14] (fun v14 w' => ∃ n : Nat, v14 = .int .i64 n ∧ n ≤ l2_2.length ∧ Aside0 (∀ j : Nat, j < n → alikeB l0_3 l1_3 (rd l2_2 j) = true) ∧ Aside0 (Below W0.heap.size W0 w')) (fun v14 _ => l2_2.length - (intOf v14).toNat)
  case atStart => exact ⟨0, rfl, Nat.zero_le _, ⟨fun j hj => absurd hj (by omega)⟩, ⟨Below.refl _ _⟩⟩
  case round =>
    obtain ⟨n, rfl, hn, HN, HB⟩ := hrel
    have hz := HZ.out
    have ha3 : wr.cell? ⟨w.heap.size, 3, none⟩ = some (.slice A0_3 l0_3.length c0_3) := (HB.out.cell (p := ⟨w.heap.size, 3, none⟩) (by show w.heap.size < _; omega)).trans HA3.out
    have hb3 : wr.cell? ⟨w.heap.size + 1, 3, none⟩ = some (.slice A1_3 l1_3.length c1_3) := (HB.out.cell (p := ⟨w.heap.size + 1, 3, none⟩) (by show w.heap.size + 1 < _; omega)).trans HB3.out
    have hd3 : wr.cell? ⟨w.heap.size + 1 + 1, 3, none⟩ = some (.int .i64 a2_3) := (HB.out.cell (p := ⟨w.heap.size + 1 + 1, 3, none⟩) (by show w.heap.size + 1 + 1 < _; omega)).trans HD3.out
    have HBW := Aside0.mk (HB0.out.trans (HB.out.mono (by omega)))
    have HLW := Aside0.mk (show w.heap.size + 1 + 1 < wr.heap.size from Nat.lt_of_lt_of_le (by omega) HB.out.size)
    have HRW := Aside0.mk (Kd.C_below HR.out HBW.out)
    have HAW := Aside0.mk (Kd.C_below HA.out HBW.out)
    have HBBW := Aside0.mk (Kd.C_below HAB.out HBW.out)
    clear hz HA3 HB3 HD3 HZ HB0
    by_cases hlt : n < l2_2.length
    · obtain ⟨ad, e1, hx0⟩ := Kd.at_int HRW.out n (by omega) (by omega)
      cases e1
      simp only [Int.toNat_natCast] at hx0
      have HP := Aside0.mk hlt
      obtain ⟨f, hf⟩ : ∃ f, rd l2_2 n = f := ⟨_, rfl⟩
      rw [hf] at hx0
      have HFX := Aside0.mk hf
      clear hf
      have HO := Aside0.mk (inside_calls w.heap.size (w.heap.size + 1) l0_3.length l1_3.length A0_3 A1_3 c0_3 c1_3 f wr ha3 hb3 (by have := HLW.out; omega) (by have := HLW.out; omega))
      cases ho : insB l0_3.length l1_3.length f
      · have HQ := Aside0.mk ho
        go_wp2_with (((with_reducible refine (HO.out _ ?hb).mono ?_); (case hb => repeat (first | exact Below.refl _ _ | apply pw_below_drewN | apply below_drew1)); rintro e w' ⟨rfl, ⟨nd, rfl⟩⟩; rw [ho]; (try first | exact ⟨rfl, _, World.drewN_drewN _ _ _⟩ | exact ⟨rfl, _, Eq.trans (World.drewN_drewN _ _ _) (congrArg (World.drewN _) (Nat.add_assoc _ _ _))⟩)))
        repeat (go_quiet (((with_reducible refine (HO.out _ ?hb).mono ?_); (case hb => repeat (first | exact Below.refl _ _ | apply pw_below_drewN | apply below_drew1)); rintro e w' ⟨rfl, ⟨nd, rfl⟩⟩; rw [ho]; (try first | exact ⟨rfl, _, World.drewN_drewN _ _ _⟩ | exact ⟨rfl, _, Eq.trans (World.drewN_drewN _ _ _) (congrArg (World.drewN _) (Nat.add_assoc _ _ _))⟩))); try go_wp2_with (((with_reducible refine (HO.out _ ?hb).mono ?_); (case hb => repeat (first | exact Below.refl _ _ | apply pw_below_drewN | apply below_drew1)); rintro e w' ⟨rfl, ⟨nd, rfl⟩⟩; rw [ho]; (try first | exact ⟨rfl, _, World.drewN_drewN _ _ _⟩ | exact ⟨rfl, _, Eq.trans (World.drewN_drewN _ _ _) (congrArg (World.drewN _) (Nat.add_assoc _ _ _))⟩))))
        go_ret
        exact ⟨by rw [← HV.out, brk_false (n := n) HP.out (by rw [HFX.out, alikeB, HQ.out]; rfl)]; rfl, by repeat (first | exact HBW.out | apply pw_below_drewN | apply below_drew1)⟩
      · have HQ := Aside0.mk ho
        obtain ⟨q0, q1, q2⟩ := insB_iff.1 ho
        obtain ⟨ada, ea, hy0⟩ := Kd.at_int HAW.out f q0 q1
        obtain ⟨adb, eb, hz0⟩ := Kd.at_int HBBW.out f q0 q2
        cases ea
        cases eb
        replace q0 := eq_true q0
        replace q1 := eq_true q1
        replace q2 := eq_true q2
        cases hne : (rd l0_3 f != rd l1_3 f)
        · have HNE := Aside0.mk hne
          go_wp2_with (((with_reducible refine (HO.out _ ?hb).mono ?_); (case hb => repeat (first | exact Below.refl _ _ | apply pw_below_drewN | apply below_drew1)); rintro e w' ⟨rfl, ⟨nd, rfl⟩⟩; rw [ho]; (try first | exact ⟨rfl, _, World.drewN_drewN _ _ _⟩ | exact ⟨rfl, _, Eq.trans (World.drewN_drewN _ _ _) (congrArg (World.drewN _) (Nat.add_assoc _ _ _))⟩)))
          repeat (go_quiet (((with_reducible refine (HO.out _ ?hb).mono ?_); (case hb => repeat (first | exact Below.refl _ _ | apply pw_below_drewN | apply below_drew1)); rintro e w' ⟨rfl, ⟨nd, rfl⟩⟩; rw [ho]; (try first | exact ⟨rfl, _, World.drewN_drewN _ _ _⟩ | exact ⟨rfl, _, Eq.trans (World.drewN_drewN _ _ _) (congrArg (World.drewN _) (Nat.add_assoc _ _ _))⟩))); try go_wp2_with (((with_reducible refine (HO.out _ ?hb).mono ?_); (case hb => repeat (first | exact Below.refl _ _ | apply pw_below_drewN | apply below_drew1)); rintro e w' ⟨rfl, ⟨nd, rfl⟩⟩; rw [ho]; (try first | exact ⟨rfl, _, World.drewN_drewN _ _ _⟩ | exact ⟨rfl, _, Eq.trans (World.drewN_drewN _ _ _) (congrArg (World.drewN _) (Nat.add_assoc _ _ _))⟩))))
          go_roundw
          case rel =>
            refine ⟨n + 1, (by go_num), HP.out, ⟨fun j hj => ?_⟩, ⟨by repeat (first | exact HB.out | apply pw_below_drewN | apply below_drew1)⟩⟩
            rcases Nat.lt_or_ge j n with h | h
            · exact HN.out j h
            · obtain rfl : j = n := by omega
              rw [HFX.out, alikeB, HQ.out]
              have := HNE.out
              simp only [bne_eq_false_iff_eq] at this
              simp [this]
          case measure => have := HP.out; simp [intOf]; omega
        · have HNE := Aside0.mk hne
          go_wp2_with (((with_reducible refine (HO.out _ ?hb).mono ?_); (case hb => repeat (first | exact Below.refl _ _ | apply pw_below_drewN | apply below_drew1)); rintro e w' ⟨rfl, ⟨nd, rfl⟩⟩; rw [ho]; (try first | exact ⟨rfl, _, World.drewN_drewN _ _ _⟩ | exact ⟨rfl, _, Eq.trans (World.drewN_drewN _ _ _) (congrArg (World.drewN _) (Nat.add_assoc _ _ _))⟩)))
          repeat (go_quiet (((with_reducible refine (HO.out _ ?hb).mono ?_); (case hb => repeat (first | exact Below.refl _ _ | apply pw_below_drewN | apply below_drew1)); rintro e w' ⟨rfl, ⟨nd, rfl⟩⟩; rw [ho]; (try first | exact ⟨rfl, _, World.drewN_drewN _ _ _⟩ | exact ⟨rfl, _, Eq.trans (World.drewN_drewN _ _ _) (congrArg (World.drewN _) (Nat.add_assoc _ _ _))⟩))); try go_wp2_with (((with_reducible refine (HO.out _ ?hb).mono ?_); (case hb => repeat (first | exact Below.refl _ _ | apply pw_below_drewN | apply below_drew1)); rintro e w' ⟨rfl, ⟨nd, rfl⟩⟩; rw [ho]; (try first | exact ⟨rfl, _, World.drewN_drewN _ _ _⟩ | exact ⟨rfl, _, Eq.trans (World.drewN_drewN _ _ _) (congrArg (World.drewN _) (Nat.add_assoc _ _ _))⟩))))
          go_ret
          exact ⟨by rw [← HV.out, brk_false (n := n) HP.out (by rw [HFX.out, alikeB, HQ.out]; have := HNE.out; simp only [bne, Bool.not_eq_true'] at this; rw [this]; rfl)]; rfl, by repeat (first | exact HBW.out | apply pw_below_drewN | apply below_drew1)⟩
    · have HALL : Aside0 (l2_2.all (alikeB l0_3 l1_3) = true) := ⟨by
        rw [List.all_eq_true]
        intro x hx
        obtain ⟨j, hj, rfl⟩ := List.getElem_of_mem hx
        rw [← rd_at3 l2_2 j hj]
        exact HN.out j (Nat.lt_of_lt_of_le hj (Nat.le_of_not_lt hlt))⟩
      obtain ⟨f, hf⟩ : ∃ f, a2_3 = f := ⟨_, rfl⟩
      subst hf
      have HO := Aside0.mk (inside_calls w.heap.size (w.heap.size + 1) l0_3.length l1_3.length A0_3 A1_3 c0_3 c1_3 a2_3 wr ha3 hb3 (by have := HLW.out; omega) (by have := HLW.out; omega))
      cases ho : insB l0_3.length l1_3.length a2_3
      · have HQ := Aside0.mk ho
        go_wp2_with (((with_reducible refine (HO.out _ ?hb).mono ?_); (case hb => repeat (first | exact Below.refl _ _ | apply pw_below_drewN | apply below_drew1)); rintro e w' ⟨rfl, ⟨nd, rfl⟩⟩; rw [ho]; (try first | exact ⟨rfl, _, World.drewN_drewN _ _ _⟩ | exact ⟨rfl, _, Eq.trans (World.drewN_drewN _ _ _) (congrArg (World.drewN _) (Nat.add_assoc _ _ _))⟩)))
        repeat (go_quiet (((with_reducible refine (HO.out _ ?hb).mono ?_); (case hb => repeat (first | exact Below.refl _ _ | apply pw_below_drewN | apply below_drew1)); rintro e w' ⟨rfl, ⟨nd, rfl⟩⟩; rw [ho]; (try first | exact ⟨rfl, _, World.drewN_drewN _ _ _⟩ | exact ⟨rfl, _, Eq.trans (World.drewN_drewN _ _ _) (congrArg (World.drewN _) (Nat.add_assoc _ _ _))⟩))); try go_wp2_with (((with_reducible refine (HO.out _ ?hb).mono ?_); (case hb => repeat (first | exact Below.refl _ _ | apply pw_below_drewN | apply below_drew1)); rintro e w' ⟨rfl, ⟨nd, rfl⟩⟩; rw [ho]; (try first | exact ⟨rfl, _, World.drewN_drewN _ _ _⟩ | exact ⟨rfl, _, Eq.trans (World.drewN_drewN _ _ _) (congrArg (World.drewN _) (Nat.add_assoc _ _ _))⟩))))
        go_ret
        exact ⟨by rw [← HV.out, brk, HALL.out, HQ.out]; rfl, by repeat (first | exact HBW.out | apply pw_below_drewN | apply below_drew1)⟩
      · have HQ := Aside0.mk ho
        obtain ⟨q0, q1, q2⟩ := insB_iff.1 ho
        obtain ⟨ada, ea, hy0⟩ := Kd.at_int HAW.out a2_3 q0 q1
        obtain ⟨adb, eb, hz0⟩ := Kd.at_int HBBW.out a2_3 q0 q2
        cases ea
        cases eb
        replace q0 := eq_true q0
        replace q1 := eq_true q1
        replace q2 := eq_true q2
        have HNE : Aside0 (∀ r0, (rd l0_3 a2_3 != rd l1_3 a2_3) = r0 → r0 = r) := ⟨fun r0 e => by rw [← HV.out, brk, HALL.out, HQ.out, ← e]; simp⟩
        go_wp2_with (((with_reducible refine (HO.out _ ?hb).mono ?_); (case hb => repeat (first | exact Below.refl _ _ | apply pw_below_drewN | apply below_drew1)); rintro e w' ⟨rfl, ⟨nd, rfl⟩⟩; rw [ho]; (try first | exact ⟨rfl, _, World.drewN_drewN _ _ _⟩ | exact ⟨rfl, _, Eq.trans (World.drewN_drewN _ _ _) (congrArg (World.drewN _) (Nat.add_assoc _ _ _))⟩)))
        repeat (go_quiet (((with_reducible refine (HO.out _ ?hb).mono ?_); (case hb => repeat (first | exact Below.refl _ _ | apply pw_below_drewN | apply below_drew1)); rintro e w' ⟨rfl, ⟨nd, rfl⟩⟩; rw [ho]; (try first | exact ⟨rfl, _, World.drewN_drewN _ _ _⟩ | exact ⟨rfl, _, Eq.trans (World.drewN_drewN _ _ _) (congrArg (World.drewN _) (Nat.add_assoc _ _ _))⟩))); try go_wp2_with (((with_reducible refine (HO.out _ ?hb).mono ?_); (case hb => repeat (first | exact Below.refl _ _ | apply pw_below_drewN | apply below_drew1)); rintro e w' ⟨rfl, ⟨nd, rfl⟩⟩; rw [ho]; (try first | exact ⟨rfl, _, World.drewN_drewN _ _ _⟩ | exact ⟨rfl, _, Eq.trans (World.drewN_drewN _ _ _) (congrArg (World.drewN _) (Nat.add_assoc _ _ _))⟩))))
        go_ret
        exact ⟨by rw [← HNE.out _ rfl]; rfl, by repeat (first | exact HBW.out | apply pw_below_drewN | apply below_drew1)⟩
end Go.Proofs.Ytfbcjeknibfjcaa.P
