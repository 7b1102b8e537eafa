/- depends.valid, Check. -/
import Derived.Test.YtfbcjeknibfjcaaG1
namespace Go.Proofs.Ytfbcjeknibfjcaa.P
open Go.RowKit Go.Proofs.YtfbcjeknibfjcaaW.PrintWords Go.Proofs.YtfbcjeknibfjcaaW.PrintLast Go.Proofs.YtfbcjeknibfjcaaW.PrintMore
set_option linter.unusedVariables false

theorem wrap_id {x : Int} (h : -9223372036854775808 ≤ x) (h' : x ≤ 9223372036854775807) : wrap64 x = x := by unfold wrap64; omega
def outF (n : Nat) (f : Int) : Bool := decide (f < 0) || decide (f ≥ (n : Int))
set_option maxHeartbeats 400000 in
theorem outside_calls (b n : Nat) (A : Option Addr) (c : Nat) (f : Int) (W : World) (hc : W.cell? ⟨b, 4, none⟩ = some (.slice A n c)) :
    Calls Try.prog 42 #[.int .i64 f, .pointer (some ⟨b, 0, none⟩)] W fun e w' => e = .returned (.bool (outF n f)) ∧ Below W.heap.size W w' := by
  have hu := Try.underlying25
  have hu2 := Try.underlying24
  cases h0 : decide (f < 0)
  · cases h1 : decide ((n : Int) ≤ f)
    · have HQ := Aside0.mk h0
      have HQ1 := Aside0.mk h1
      go_enter Try.func42, Try.ntmps42
      go_wp2
      repeat (go_quiet (fail); try go_wp2)
      go_ret
      exact ⟨by rw [outF, HQ.out]; simp [HQ1.out], by repeat (first | exact Below.refl _ _ | apply below_alloc | apply pw_below_drewN | apply below_drew1)⟩
    · have HQ := Aside0.mk h0
      have HQ1 := Aside0.mk h1
      go_enter Try.func42, Try.ntmps42
      go_wp2
      repeat (go_quiet (fail); try go_wp2)
      go_ret
      exact ⟨by rw [outF, HQ.out]; simp [HQ1.out], by repeat (first | exact Below.refl _ _ | apply below_alloc | apply pw_below_drewN | apply below_drew1)⟩
  · have HQ := Aside0.mk h0
    go_enter Try.func42, Try.ntmps42
    go_wp2
    repeat (go_quiet (fail); try go_wp2)
    go_ret
    exact ⟨by rw [outF, HQ.out]; simp, by repeat (first | exact Below.refl _ _ | apply below_alloc | apply pw_below_drewN | apply below_drew1)⟩
/-- May the field at place i of a dependency's list be there? -/
def fromAt (n : Nat) (l : List Int) (i : Nat) : Bool := !outF n (rd l i) && !(l.take i).any (· == rd l i)
def vld (n : Nat) (l : List Int) (tx : Int) : Bool := (List.range l.length).all (fromAt n l) && (decide (0 < l.length) && (!outF n tx && !l.any (· == tx)))
theorem enters42 : ∀ args w, (callFunc 42 args).run Try.prog w = .ok (.enter 42 args) w := enters_ Try.func42 (by kernel_rfl) rfl
def depends_valid.f (a0_0 : ByteArray) (a0_1 : ByteArray) (a0_2 : Int) (a0_3 : Int) (l0_4 : List S97) (l0_5 : List S29) (l1_0 : List ByteArray) (a1_1 : ByteArray) (l1_2 : List Int) (a1_3 : Int) : Option Bool := some (vld l0_4.length l1_2 a1_3)
theorem fromAt_false {n : Nat} {l : List Int} {i : Nat} (hi : i < l.length) (h : fromAt n l i = false) (tx : Int) : vld n l tx = false := by
  have : (List.range l.length).all (fromAt n l) = false := by
    rw [List.all_eq_false]
    exact ⟨i, by simpa using hi, by simp [h]⟩
  simp [vld, this]
set_option maxHeartbeats 4000000 in
set_option maxRecDepth 100000 in
theorem depends_valid.calls (a0_0 : ByteArray) (a0_1 : ByteArray) (a0_2 : Int) (a0_3 : Int) (A0_4 : Option Addr) (c0_4 : Nat) (l0_4 : List S97) (A0_5 : Option Addr) (c0_5 : Nat) (l0_5 : List S29) (A1_0 : Option Addr) (c1_0 : Nat) (l1_0 : List ByteArray) (a1_1 : ByteArray) (A1_2 : Option Addr) (c1_2 : Nat) (l1_2 : List Int) (a1_3 : Int) (r : Bool) (w : World) (hr0_4 : Kd.C k97 w A0_4 l0_4.length l0_4) (hc0_4 : l0_4.length ≤ c0_4) (hr0_5 : Kd.C k29 w A0_5 l0_5.length l0_5) (hc0_5 : l0_5.length ≤ c0_5) (hr1_0 : Kd.C Kd.string w A1_0 l1_0.length l1_0) (hc1_0 : l1_0.length ≤ c1_0) (hr1_2 : Kd.C (Kd.int .i64) w A1_2 l1_2.length l1_2) (hc1_2 : l1_2.length ≤ c1_2) (h : depends_valid.f a0_0 a0_1 a0_2 a0_3 l0_4 l0_5 l1_0 a1_1 l1_2 a1_3 = some r) :
    Calls Try.prog 30 #[.agg #[.string a0_0, .string a0_1, .int .i64 a0_2, .int .i64 a0_3, .slice A0_4 l0_4.length c0_4, .slice A0_5 l0_5.length c0_5], .agg #[.slice A1_0 l1_0.length c1_0, .string a1_1, .slice A1_2 l1_2.length c1_2, .int .i64 a1_3]] w fun e w' => e = .returned (.bool r) ∧ Below w.heap.size w w' := by
  obtain rfl := Option.some.inj h
  have hu25 := Try.underlying25
  have hu29 := Try.underlying29
  have HR := Aside0.mk hr1_2
  have HC := Aside0.mk hc1_2
  have hl : l1_2.length ≤ 9223372036854775807 := hr1_2.2.1
  clear hr1_2 hc1_2 hr0_4 hc0_4 hr0_5 hc0_5 hr1_0 hc1_0 h
  have eg := enters42
  go_enter Try.func30, Try.ntmps30
  go_wp2
  obtain ⟨W0, hW0⟩ : ∃ W0, ((w.alloc (.cells #[.string a0_0, .string a0_1, .int .i64 a0_2, .int .i64 a0_3, .slice A0_4 l0_4.length c0_4, .slice A0_5 l0_5.length c0_5] 25)).alloc (.cells #[.slice A1_0 l1_0.length c1_0, .string a1_1, .slice A1_2 l1_2.length c1_2, .int .i64 a1_3] 29)) = W0 := ⟨_, rfl⟩
  rw [hW0]
  have hB0 : Below w.heap.size w W0 := by rw [← hW0]; exact below_alloc (below_alloc (Below.refl _ _) _) _
  have hz : w.heap.size + 2 ≤ W0.heap.size := by rw [← hW0]; simp
  have hs4 : W0.cell? ⟨w.heap.size, 4, none⟩ = some (.slice A0_4 l0_4.length c0_4) := by rw [← hW0]; simp
  have hd2 : W0.cell? ⟨w.heap.size + 1, 2, none⟩ = some (.slice A1_2 l1_2.length c1_2) := by rw [← hW0]; simp
  have hd3 : W0.cell? ⟨w.heap.size + 1, 3, none⟩ = some (.int .i64 a1_3) := by rw [← hW0]; simp
  have HS4 := Aside0.mk hs4
  have HD2 := Aside0.mk hd2
  have HD3 := Aside0.mk hd3
  have HZ := Aside0.mk hz
  have HB0 := Aside0.mk hB0
  clear hW0 hB0 hz hs4 hd2 hd3
  go_loopw [12] (fun v12 w' => ∃ n : Nat, v12 = .int .i64 n ∧ n ≤ l1_2.length ∧ Aside0 (∀ j : Nat, j < n → fromAt l0_4.length l1_2 j = true) ∧ Aside0 (Below W0.heap.size W0 w')) (fun v12 _ => l1_2.length - (intOf v12).toNat)
  case atStart => exact ⟨0, rfl, Nat.zero_le _, ⟨fun j hj => absurd hj (by omega)⟩, ⟨Below.refl _ _⟩⟩
  case round =>
    obtain ⟨n, rfl, hn, HN, HB⟩ := hrel
    have hz := HZ.out
    have hs4 : wr.cell? ⟨w.heap.size, 4, none⟩ = some (.slice A0_4 l0_4.length c0_4) := (HB.out.cell (p := ⟨w.heap.size, 4, none⟩) (by show w.heap.size < _; omega)).trans HS4.out
    have hd2 : wr.cell? ⟨w.heap.size + 1, 2, none⟩ = some (.slice A1_2 l1_2.length c1_2) := (HB.out.cell (p := ⟨w.heap.size + 1, 2, none⟩) (by show w.heap.size + 1 < _; omega)).trans HD2.out
    have hd3 : wr.cell? ⟨w.heap.size + 1, 3, none⟩ = some (.int .i64 a1_3) := (HB.out.cell (p := ⟨w.heap.size + 1, 3, none⟩) (by show w.heap.size + 1 < _; omega)).trans HD3.out
    have HBW := Aside0.mk (HB0.out.trans (HB.out.mono (by omega)))
    have HRW := Aside0.mk (Kd.C_below HR.out HBW.out)
    have HLW := Aside0.mk (show w.heap.size + 1 < wr.heap.size from Nat.lt_of_lt_of_le (by omega) HB.out.size)
    clear hz HS4 HD2 HD3 HZ HB0
    by_cases hlt : n < l1_2.length
    · obtain ⟨ad, e1, hx0⟩ := Kd.at_int HRW.out n (by omega) (by omega)
      cases e1
      simp only [Int.toNat_natCast] at hx0
      have HO := Aside0.mk (outside_calls w.heap.size l0_4.length A0_4 c0_4 (rd l1_2 n) wr hs4)
      cases ho : outF l0_4.length (rd l1_2 n)
      · obtain ⟨i0, hi0, _, hsz, _⟩ := info_parts info3
        obtain ⟨hcut, hA, hC⟩ := print_take_of (P := Try.prog) (Value.int .i64) 0 26 3 .i64 Try.underlying26 hi0 hsz (some ad) c1_2 l1_2 n (by omega) (by omega) HC.out
        simp only [Int.toNat_natCast] at hcut hA hC
        have HT : Aside0 (Kd.C (Kd.int .i64) wr (some ad) (l1_2.take n).length (l1_2.take n)) := ⟨Kd.C_of_reads (h1 := fun _ => rfl) (hA _ (Kd.reads_of_C HRW.out))⟩
        clear hA hC hi0 hsz hcut
        have hnc : n ≤ c1_2 := by have := HC.out; omega
        have HCN := Aside0.mk (fun W (h : Kd.C (Kd.int .i64) W (some ad) (l1_2.take n).length (l1_2.take n)) => containsOf_calls (rd l1_2 n) (some ad) c1_2 (l1_2.take n) W h)
        have hln : (l1_2.take n).length = n := by rw [List.length_take]; omega
        rw [hln] at HCN HT
        clear hln
        have HQ := Aside0.mk ho
        cases hcn : (l1_2.take n).any (· == rd l1_2 n)
        · have HQ2 := Aside0.mk hcn
          go_wp2_with ((with_reducible refine HO.out.mono ?_); rintro e w1 ⟨rfl, hb1⟩; rw [ho]; have HB1 := Aside0.mk hb1; have hd21 : w1.cell? ⟨w.heap.size + 1, 2, none⟩ = some (.slice (some ad) l1_2.length c1_2) := (hb1.cell (p := ⟨w.heap.size + 1, 2, none⟩) HLW.out).trans hd2; clear hb1; refine Aside0.out (p := _) ?_)
          refine ⟨?_⟩
          go_wp2_with (go_at_call 43; (with_reducible refine (HCN.out _ (Kd.C_below HT.out HB1.out)).mono ?_); rintro e w2 ⟨rfl, hb2⟩; rw [hcn]; have HB2 := Aside0.mk (below2 HB1.out hb2); clear hb2)
          go_roundw
          case rel =>
            refine ⟨n + 1, (by go_num), hlt, ⟨fun j hj => ?_⟩, ⟨below2 HB.out HB2.out⟩⟩
            rcases Nat.lt_or_ge j n with h | h
            · exact HN.out j h
            · obtain rfl : j = n := by omega
              simp only [fromAt, HQ.out, HQ2.out]
              rfl
          case measure => simp [intOf]; omega
        · have HQ2 := Aside0.mk hcn
          go_wp2_with ((with_reducible refine HO.out.mono ?_); rintro e w1 ⟨rfl, hb1⟩; rw [ho]; have HB1 := Aside0.mk hb1; have hd21 : w1.cell? ⟨w.heap.size + 1, 2, none⟩ = some (.slice (some ad) l1_2.length c1_2) := (hb1.cell (p := ⟨w.heap.size + 1, 2, none⟩) HLW.out).trans hd2; clear hb1; refine Aside0.out (p := _) ?_)
          refine ⟨?_⟩
          go_wp2_with (go_at_call 43; (with_reducible refine (HCN.out _ (Kd.C_below HT.out HB1.out)).mono ?_); rintro e w2 ⟨rfl, hb2⟩; rw [hcn]; have HB2 := Aside0.mk (below2 HB1.out hb2); clear hb2)
          go_ret
          exact ⟨by rw [fromAt_false (i := n) (by omega) (by simp only [fromAt, HQ.out, HQ2.out]; rfl)]; rfl, below2 HBW.out HB2.out⟩
      · have HQ := Aside0.mk ho
        go_wp2_with ((with_reducible refine HO.out.mono ?_); rintro e w1 ⟨rfl, hb1⟩; rw [ho])
        go_ret
        exact ⟨by rw [fromAt_false (i := n) (by omega) (by simp only [fromAt, HQ.out]; rfl)]; rfl, below2 HBW.out hb1⟩
    · have HALL : Aside0 ((List.range l1_2.length).all (fromAt l0_4.length l1_2) = true) := ⟨by rw [List.all_eq_true]; intro j hj; exact HN.out j (Nat.lt_of_lt_of_le (List.mem_range.1 hj) (Nat.le_of_not_lt hlt))⟩
      have HO := Aside0.mk (outside_calls w.heap.size l0_4.length A0_4 c0_4 a1_3 wr hs4)
      by_cases hpos : 0 < l1_2.length
      · have hdp : decide (0 < (l1_2.length : Int)) = true := by simp; omega
        have hdp2 : decide (0 < l1_2.length) = true := by simp; omega
        have HP := Aside0.mk hdp2
        clear hdp2
        cases ho : outF l0_4.length a1_3
        · have HQ := Aside0.mk ho
          cases hcn : l1_2.any (· == a1_3)
          · have HQ2 := Aside0.mk hcn
            go_wp2_with ((with_reducible refine HO.out.mono ?_); rintro e w1 ⟨rfl, hb1⟩; rw [ho]; have HB1 := Aside0.mk hb1; have hd21 : w1.cell? ⟨w.heap.size + 1, 2, none⟩ = some (.slice A1_2 l1_2.length c1_2) := (hb1.cell (p := ⟨w.heap.size + 1, 2, none⟩) HLW.out).trans hd2; have hd31 : w1.cell? ⟨w.heap.size + 1, 3, none⟩ = some (.int .i64 a1_3) := (hb1.cell (p := ⟨w.heap.size + 1, 3, none⟩) HLW.out).trans hd3; clear hb1; refine Aside0.out (p := _) ?_)
            refine ⟨?_⟩
            go_wp2_with (go_at_call 43; (with_reducible refine (containsOf_calls a1_3 _ _ l1_2 _ ?s1).mono ?_); (case s1 => exact Kd.C_below HRW.out HB1.out); rintro e w2 ⟨rfl, hb2⟩; rw [hcn]; have HB2 := Aside0.mk (below2 HB1.out hb2); clear hb2)
            go_ret
            exact ⟨by simp only [vld, HALL.out, HP.out, HQ.out, HQ2.out]; rfl, below2 HBW.out HB2.out⟩
          · have HQ2 := Aside0.mk hcn
            go_wp2_with ((with_reducible refine HO.out.mono ?_); rintro e w1 ⟨rfl, hb1⟩; rw [ho]; have HB1 := Aside0.mk hb1; have hd21 : w1.cell? ⟨w.heap.size + 1, 2, none⟩ = some (.slice A1_2 l1_2.length c1_2) := (hb1.cell (p := ⟨w.heap.size + 1, 2, none⟩) HLW.out).trans hd2; have hd31 : w1.cell? ⟨w.heap.size + 1, 3, none⟩ = some (.int .i64 a1_3) := (hb1.cell (p := ⟨w.heap.size + 1, 3, none⟩) HLW.out).trans hd3; clear hb1; refine Aside0.out (p := _) ?_)
            refine ⟨?_⟩
            go_wp2_with (go_at_call 43; (with_reducible refine (containsOf_calls a1_3 _ _ l1_2 _ ?s1).mono ?_); (case s1 => exact Kd.C_below HRW.out HB1.out); rintro e w2 ⟨rfl, hb2⟩; rw [hcn]; have HB2 := Aside0.mk (below2 HB1.out hb2); clear hb2)
            go_ret
            exact ⟨by simp only [vld, HALL.out, HP.out, HQ.out, HQ2.out]; rfl, below2 HBW.out HB2.out⟩
        · have HQ := Aside0.mk ho
          go_wp2_with ((with_reducible refine HO.out.mono ?_); rintro e w1 ⟨rfl, hb1⟩; rw [ho])
          go_ret
          exact ⟨by simp only [vld, HALL.out, HP.out, HQ.out]; rfl, below2 HBW.out hb1⟩
      · have hdp : decide (0 < (l1_2.length : Int)) = false := decide_eq_false (by omega)
        have hdp2 : decide (0 < l1_2.length) = false := decide_eq_false hpos
        have HP := Aside0.mk hdp2
        clear hdp2
        go_wp2
        go_ret
        exact ⟨by simp only [vld, HALL.out, HP.out]; rfl, HBW.out⟩
end Go.Proofs.Ytfbcjeknibfjcaa.P
