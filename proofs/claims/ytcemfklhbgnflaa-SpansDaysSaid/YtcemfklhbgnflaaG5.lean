/- The walk of the law SpansDays. -/
import Derived.Test.YtcemfklhbgnflaaP5
import Derived.Test.YtcemfklhbgnflaaM
namespace Go.Proofs.Ytcemfklhbgnflaa.P
open Go.RowKit Go.Proofs.YtcemfklhbgnflaaW.PrintWords Go.Proofs.YtcemfklhbgnflaaW.PrintLast Go.Proofs.YtcemfklhbgnflaaW.PrintMore
set_option linter.unusedVariables false

/-! ### What the law asks of a normal list -/
theorem Nrm.at {L : List S31} {lo : Int} (h : Nrm lo L) : ∀ (m : Nat) (hm : m < L.length), lo ≤ (L[m]).f0 ∧ (L[m]).f0 < (L[m]).f1 ∧ (L[m]).f1 ≤ 1024 ∧ ∀ (h0 : 0 < m), (L[m - 1]'(by omega)).f1 < (L[m]).f0 := by
  induction L generalizing lo with
  | nil => intro m hm; simp at hm
  | cons x L ih =>
    intro m hm
    cases m with
    | zero => exact ⟨h.1, h.2.1, h.2.2.1, fun h0 => absurd h0 (by omega)⟩
    | succ m =>
      have h1 := ih h.2.2.2 m (by simpa using hm)
      have h2 := h.1
      have h3 := h.2.1
      refine ⟨by simp; omega, by simpa using h1.2.1, by simpa using h1.2.2.1, fun _ => ?_⟩
      cases m with
      | zero => have := h1.1; simp; omega
      | succ m => simpa using h1.2.2.2 (by omega)
theorem nrm_ok (f : Nat → Bool) : spans_Check.f (nrm f) = some 0 := by
  have : (nrm f).any badSpan = false := by
    rw [List.any_eq_false]
    intro x hx
    obtain ⟨m, hm, rfl⟩ := List.getElem_of_mem hx
    obtain ⟨h1, h2, h3, _⟩ := (nrm_nrm f).at m hm
    simp only [badSpan, Bool.or_eq_true, decide_eq_true_eq]
    omega
  simp [spans_Check.f, this]
def hasB (f : Nat → Bool) (x : Int) : Bool := decide (0 ≤ x) && decide (x < 1024) && f x.toNat
theorem has_inl (l : List S31) (x : Int) : spans_Has.f l x = some (hasB (inl l) x) := by
  rw [spans_Has.f, hasB]
  by_cases h : 0 ≤ x
  · obtain ⟨m, rfl⟩ := Int.eq_ofNat_of_zero_le h
    rfl
  · simp [h]
theorem has_nrm (f : Nat → Bool) (x : Int) : spans_Has.f (nrm f) x = some (hasB f x) := by
  rw [has_inl, hasB, hasB]
  by_cases h : 0 ≤ x ∧ x < 1024
  · rw [nrm_in f x.toNat (by omega)]
  · by_cases h0 : 0 ≤ x
    · have : ¬ x < 1024 := fun hx => h ⟨h0, hx⟩
      simp [this]
    · simp [h0]
def testamurlaw03_SpansDays.f (k : Nat) (l0 l1 : List S31) (a2 : Int) : Option Bool := some true
set_option maxRecDepth 100000 in
set_option maxHeartbeats 4000000 in
theorem testamurlaw03_SpansDays.calls (k : Nat) (A0 : Option Addr) (c0 : Nat) (l0 : List (S31)) (A1 : Option Addr) (c1 : Nat) (l1 : List (S31)) (a2 : Int) (r : Bool) (w : World) (hr0 : Kd.C k31 w A0 l0.length l0) (hc0 : l0.length ≤ c0) (hr1 : Kd.C k31 w A1 l1.length l1) (hc1 : l1.length ≤ c1) (h : testamurlaw03_SpansDays.f k l0 l1 a2 = some r) :
    Calls Try.prog 6 #[.slice A0 l0.length c0, .slice A1 l1.length c1, .int .i64 a2] w fun e w' => e = .returned (.bool r) ∧ Below w.heap.size w w' := by
  obtain rfl := Option.some.inj h
  have hu31 := Try.underlying31
  obtain ⟨ks, hks⟩ := sane_ev.rounds
  have HS := Aside0.mk hks
  have HR0 := Aside0.mk hr0
  have HR1 := Aside0.mk hr1
  have HC0 := Aside0.mk hc0
  have HC1 := Aside0.mk hc1
  clear hr0 hr1 hc0 hc1 h hks
  go_enter Try.func6, Try.ntmps6
  try simp only [List.append]
  go_wp2_with (go_at_call 10; (with_reducible refine (testamurlaw03_sane.calls ks true _ HS.out).mono ?_); rintro e w1 ⟨rfl, hb1⟩; have HB1 := Aside0.mk hb1; clear hb1; refine Aside0.out (p := _) ?_)
  refine ⟨?_⟩
  obtain ⟨b0, hb0⟩ : ∃ b, testamurref03_Few.f l0 = some b := ⟨_, rfl⟩
  obtain ⟨b1, hb1⟩ : ∃ b, testamurref03_Few.f l1 = some b := ⟨_, rfl⟩
  have HF0 := Aside0.mk hb0
  have HF1 := Aside0.mk hb1
  clear hb0 hb1
  have HX0 := Aside0.mk (Kd.C_below HR0.out HB1.out)
  have HX1 := Aside0.mk (Kd.C_below HR1.out HB1.out)
  cases b0 with
  | false =>
    go_wp2_with (go_at_call 11; (with_reducible refine (testamurref03_Few.calls _ _ l0 false _ ?s1 ?s2 HF0.out).mono ?_); (case s1 => exact HX0.out); (case s2 => exact HC0.out); rintro e w2 ⟨rfl, ⟨m, rfl⟩⟩)
    go_wp2
    go_ret
    exact ⟨rfl, by repeat (first | (with_reducible first | exact HB1.out | apply below_alloc | apply pw_below_drewN | apply below_drew1) | exact HB1.out)⟩
  | true =>
  go_wp2_with (go_at_call 11; (with_reducible refine (testamurref03_Few.calls _ _ l0 true _ ?s1 ?s2 HF0.out).mono ?_); (case s1 => exact HX0.out); (case s2 => exact HC0.out); rintro e w2 ⟨rfl, hd⟩; have HB2 := Aside0.mk (below2 HB1.out hd.below); clear hd; refine Aside0.out (p := _) ?_)
  refine ⟨?_⟩
  cases b1 with
  | false =>
    go_wp2_with (go_at_call 11; (with_reducible refine (testamurref03_Few.calls _ _ l1 false _ ?s1 ?s2 HF1.out).mono ?_); (case s1 => exact Kd.C_below HR1.out HB2.out); (case s2 => exact HC1.out); rintro e w3 ⟨rfl, hd⟩; have HB3 := Aside0.mk (below2 HB2.out hd.below); clear hd)
    go_wp2
    go_ret
    exact ⟨rfl, HB3.out⟩
  | true =>
  go_wp2_with (go_at_call 11; (with_reducible refine (testamurref03_Few.calls _ _ l1 true _ ?s1 ?s2 HF1.out).mono ?_); (case s1 => exact Kd.C_below HR1.out HB2.out); (case s2 => exact HC1.out); rintro e w3 ⟨rfl, hd⟩; have HB3 := Aside0.mk (below2 HB2.out hd.below); clear hd; refine Aside0.out (p := _) ?_)
  refine ⟨?_⟩
  clear HX0 HX1
  have hCa := Aside0.mk (Kd.C_below HR0.out HB3.out)
  have hCb := Aside0.mk (Kd.C_below HR1.out HB3.out)
  clear HR0 HR1 HF0 HF1 HS HB1 HB2
  go_wp2_with (go_at_call 17; (with_reducible refine (spans_Union.calls _ _ l0 _ _ l1 _ _ ?s1 ?s2 ?s3 ?s4 (union_f l0 l1)).mono ?_); (case s1 => exact hCa.out); (case s2 => exact HC0.out); (case s3 => exact hCb.out); (case s4 => exact HC1.out); rintro e w4 ⟨vu, rfl, hu, hb⟩; obtain ⟨Au, cu, rfl⟩ := Kd.R_slice hu; have hCu := Aside0.mk (Kd.R_reads' hu).2.2; have hcu := Aside0.mk (Kd.R_reads' hu).2.1; replace hCa := Aside0.mk (Kd.C_below hCa.out hb); replace hCb := Aside0.mk (Kd.C_below hCb.out hb); have HB4 := Aside0.mk (below2 HB3.out hb); clear hu hb; refine Aside0.out (p := _) ?_)
  refine ⟨?_⟩
  go_wp2_with (go_at_call 19; (with_reducible refine (spans_Meet.calls _ _ l0 _ _ l1 _ _ ?s1 ?s2 ?s3 ?s4 (meet_f l0 l1)).mono ?_); (case s1 => exact hCa.out); (case s2 => exact HC0.out); (case s3 => exact hCb.out); (case s4 => exact HC1.out); rintro e w5 ⟨vm, rfl, hu, hb⟩; obtain ⟨Am, cm, rfl⟩ := Kd.R_slice hu; have hCm := Aside0.mk (Kd.R_reads' hu).2.2; have hcm := Aside0.mk (Kd.R_reads' hu).2.1; replace hCa := Aside0.mk (Kd.C_below hCa.out hb); replace hCb := Aside0.mk (Kd.C_below hCb.out hb); replace hCu := Aside0.mk (Kd.C_below hCu.out hb); have HB5 := Aside0.mk (below2 HB4.out hb); clear hu hb; refine Aside0.out (p := _) ?_)
  refine ⟨?_⟩
  go_wp2_with (go_at_call 21; (with_reducible refine (spans_Minus.calls _ _ l0 _ _ l1 _ _ ?s1 ?s2 ?s3 ?s4 (minus_f l0 l1)).mono ?_); (case s1 => exact hCa.out); (case s2 => exact HC0.out); (case s3 => exact hCb.out); (case s4 => exact HC1.out); rintro e w6 ⟨vd, rfl, hu, hb⟩; obtain ⟨Ad, cd, rfl⟩ := Kd.R_slice hu; have hCd := Aside0.mk (Kd.R_reads' hu).2.2; have hcd := Aside0.mk (Kd.R_reads' hu).2.1; replace hCa := Aside0.mk (Kd.C_below hCa.out hb); replace hCb := Aside0.mk (Kd.C_below hCb.out hb); replace hCu := Aside0.mk (Kd.C_below hCu.out hb); replace hCm := Aside0.mk (Kd.C_below hCm.out hb); have HB6 := Aside0.mk (below2 HB5.out hb); clear hu hb; refine Aside0.out (p := _) ?_)
  refine ⟨?_⟩
  go_wp2_with (go_at_call 15; (with_reducible refine (spans_Normal.calls _ _ l0 _ _ ?s1 ?s2 (normal_f l0)).mono ?_); (case s1 => exact hCa.out); (case s2 => exact HC0.out); rintro e w7 ⟨vn, rfl, hu, hb⟩; obtain ⟨An, cn, rfl⟩ := Kd.R_slice hu; have hCn := Aside0.mk (Kd.R_reads' hu).2.2; have hcn := Aside0.mk (Kd.R_reads' hu).2.1; replace hCa := Aside0.mk (Kd.C_below hCa.out hb); replace hCb := Aside0.mk (Kd.C_below hCb.out hb); replace hCu := Aside0.mk (Kd.C_below hCu.out hb); replace hCm := Aside0.mk (Kd.C_below hCm.out hb); replace hCd := Aside0.mk (Kd.C_below hCd.out hb); have HB7 := Aside0.mk (below2 HB6.out hb); clear hu hb; refine Aside0.out (p := _) ?_)
  refine ⟨?_⟩
  clear HB3 HB4 HB5 HB6
  go_wp2
  obtain ⟨W0, hW0⟩ : ∃ W0, (w7.alloc (.cells #[.slice Au (nrm fun m => inl l0 m || inl l1 m).length cu, .slice Am (nrm fun m => inl l0 m && inl l1 m).length cm, .slice Ad (nrm fun m => inl l0 m && !inl l1 m).length cd, .slice An (nrm (inl l0)).length cn] 22)) = W0 := ⟨_, rfl⟩
  rw [hW0]
  have hB0 : Below w7.heap.size w7 W0 := by rw [← hW0]; exact below_alloc (Below.refl _ _) _
  have HCELL : Aside0 (∀ j : Nat, j < 4 → ∃ (A : Option Addr) (c : Nat) (f : Nat → Bool), W0.cell? ⟨w7.heap.size, j, none⟩ = some (.slice A (nrm f).length c) ∧ Kd.C k31 W0 A (nrm f).length (nrm f) ∧ (nrm f).length ≤ c) := by
    refine ⟨fun j hj => ?_⟩
    obtain rfl | rfl | rfl | rfl : j = 0 ∨ j = 1 ∨ j = 2 ∨ j = 3 := by omega
    · exact ⟨Au, cu, _, by rw [← hW0]; simp, Kd.C_below hCu.out hB0, hcu.out⟩
    · exact ⟨Am, cm, _, by rw [← hW0]; simp, Kd.C_below hCm.out hB0, hcm.out⟩
    · exact ⟨Ad, cd, _, by rw [← hW0]; simp, Kd.C_below hCd.out hB0, hcd.out⟩
    · exact ⟨An, cn, _, by rw [← hW0]; simp, Kd.C_below hCn.out hB0, hcn.out⟩
  have hlt : w7.heap.size < W0.heap.size := by rw [← hW0]; simp
  replace hCa := Aside0.mk (Kd.C_below hCa.out hB0)
  replace hCb := Aside0.mk (Kd.C_below hCb.out hB0)
  replace hCu := Aside0.mk (Kd.C_below hCu.out hB0)
  replace hCm := Aside0.mk (Kd.C_below hCm.out hB0)
  replace hCd := Aside0.mk (Kd.C_below hCd.out hB0)
  have HB8 := Aside0.mk (below2 HB7.out hB0)
  have HLT := Aside0.mk hlt
  clear hW0 hB0 hlt hCn hcn HB7
  go_loopw [44] (fun v44 w' => ∃ n : Nat, v44 = .int .i64 n ∧ n ≤ 4 ∧ Aside0 (Below W0.heap.size W0 w')) (fun v44 _ => 4 - (intOf v44).toNat)
  case atStart => exact ⟨0, rfl, Nat.zero_le _, ⟨Below.refl _ _⟩⟩
  case round =>
    obtain ⟨n, rfl, hn, HBW⟩ := hrel
    by_cases hlt : n < 4
    · obtain ⟨A, c, f, hcell, hC, hc⟩ := HCELL.out n hlt
      have HA := Aside0.mk hC
      have Hc := Aside0.mk hc
      clear hC hc
      have hcw : wr.cell? ⟨w7.heap.size, n, none⟩ = some (.slice A (nrm f).length c) := (HBW.out.cell (p := ⟨w7.heap.size, n, none⟩) HLT.out).trans hcell
      clear hcell
      obtain ⟨wo, rfl⟩ : ∃ wo : World, wo = wr := ⟨_, rfl⟩
      go_wp2
      go_loopw [50] (fun v50 w' => ∃ m : Nat, v50 = .int .i64 m ∧ m ≤ (nrm f).length ∧ Aside0 (Below wo.heap.size wo w')) (fun v50 _ => (nrm f).length - (intOf v50).toNat)
      case atStart => exact ⟨0, rfl, Nat.zero_le _, ⟨Below.refl _ _⟩⟩
      case round =>
        obtain ⟨m, rfl, hm, HBM⟩ := hrel
        have HCM := Aside0.mk (Kd.C_below (Kd.C_below HA.out HBW.out) HBM.out)
        by_cases hlm : m < (nrm f).length
        · have HLE := Aside0.mk (nrm_len f)
          obtain ⟨ad, e1, hx0, hx1⟩ := at_T31 HCM.out m (by omega) (by omega)
          cases e1
          simp only [Int.toNat_natCast] at hx0 hx1
          obtain ⟨g1, g2, g3, g4⟩ := (nrm_nrm f).at m hlm
          have d1 : decide ((rd_T31 (nrm f) m).f0 < 0) = false := by rw [rd_at _ _ hlm]; simp; omega
          have d2 : decide ((rd_T31 (nrm f) m).f1 ≤ (rd_T31 (nrm f) m).f0) = false := by rw [rd_at _ _ hlm]; simp; omega
          have d3 : decide (1024 < (rd_T31 (nrm f) m).f1) = false := by rw [rd_at _ _ hlm]; simp; omega
          by_cases h0 : 0 < m
          · have g5 := g4 h0
            have hw : wrap64 ((m : Int) - 1) = ((m - 1 : Nat) : Int) := by rw [wrap_id (by omega) (by have := nrm_len f; omega)]; omega
            obtain ⟨ad2, e2, hy0, hy1⟩ := at_T31 (Kd.C_alloc HCM.out (.cells #[.int .i64 (rd_T31 (nrm f) m).f0, .int .i64 (rd_T31 (nrm f) m).f1] 31)) (wrap64 ((m : Int) - 1)) (by rw [hw]; omega) (by rw [hw]; omega)
            cases e2
            have d4 : decide ((rd_T31 (nrm f) m).f0 ≤ (rd_T31 (nrm f) (wrap64 ((m : Int) - 1))).f1) = false := by rw [rd_at _ _ hlm, hw, rd_at _ _ (by omega)]; simp; omega
            have d5 : decide (0 < (m : Int)) = true := by simp; omega
            have p1 : (0 ≤ wrap64 ((m : Int) - 1)) = True := by rw [hw]; simp
            have p2 : (wrap64 ((m : Int) - 1) < ((nrm f).length : Int)) = True := by rw [hw]; simp; omega
            clear hw g1 g2 g3 g4 g5
            go_wp2
            go_quiet (fail)
            go_wp2
            go_roundw
            have hle := HLE.out
            have hw1 : wrap64 ((m : Int) + 1) = ((m + 1 : Nat) : Int) := by rw [wrap_id (by omega) (by omega)]; omega
            case rel => exact ⟨m + 1, by rw [hw1], hlm, ⟨below2 HBM.out (by repeat (first | exact Below.refl _ _ | apply below_alloc | apply pw_below_drewN | apply below_drew1))⟩⟩
            case measure => have hle := HLE.out; have hw1 : wrap64 ((m : Int) + 1) = ((m + 1 : Nat) : Int) := by (rw [wrap_id (by omega) (by omega)]; omega)
                            rw [hw1]; simp [intOf]; omega
          · have d5 : decide (0 < (m : Int)) = false := by simp; omega
            clear g1 g2 g3 g4
            go_wp2
            go_quiet (fail)
            go_wp2
            go_roundw
            case rel => exact ⟨m + 1, by have hle := HLE.out; go_num, hlm, ⟨below2 HBM.out (by repeat (first | exact Below.refl _ _ | apply below_alloc | apply pw_below_drewN | apply below_drew1))⟩⟩
            case measure => have hle := HLE.out; simp [intOf]; omega
        · go_wp2_with (go_at_call 12; (with_reducible refine (spans_Check.calls _ _ (nrm f) 0 _ ?s1 ?s2 (nrm_ok f)).mono ?_); (case s1 => exact HCM.out); (case s2 => exact Hc.out); rintro e w9 ⟨rfl, hb⟩; have HB9 := Aside0.mk (below2 HBM.out hb); clear hb)
          go_wp2
          go_roundw
          case rel => exact ⟨n + 1, by go_num, hlt, ⟨below2 HBW.out HB9.out⟩⟩
          case measure => simp [intOf]; omega
    · clear HCELL HLT
      replace hCa := Aside0.mk (Kd.C_below hCa.out HBW.out)
      replace hCb := Aside0.mk (Kd.C_below hCb.out HBW.out)
      replace hCu := Aside0.mk (Kd.C_below hCu.out HBW.out)
      replace hCm := Aside0.mk (Kd.C_below hCm.out HBW.out)
      replace hCd := Aside0.mk (Kd.C_below hCd.out HBW.out)
      have HBX := Aside0.mk (below2 HB8.out HBW.out)
      clear HB8 HBW
      go_wp2
      obtain ⟨W1, hW1⟩ : ∃ W1, (wr.alloc (.cells #[.int .i64 a2, .int .i64 (Go.bits BinOp.and IntKind.i64 a2 511), .int .i64 0, .int .i64 1023] 3)) = W1 := ⟨_, rfl⟩
      rw [hW1]
      have hB0 : Below wr.heap.size wr W1 := by rw [← hW1]; exact below_alloc (Below.refl _ _) _
      have HCELL : Aside0 (∀ j : Nat, j < 4 → ∃ x : Int, W1.cell? ⟨wr.heap.size, j, none⟩ = some (.int .i64 x)) := by
        refine ⟨fun j hj => ?_⟩
        obtain rfl | rfl | rfl | rfl : j = 0 ∨ j = 1 ∨ j = 2 ∨ j = 3 := by omega
        · exact ⟨a2, by rw [← hW1]; simp⟩
        · exact ⟨Go.bits BinOp.and IntKind.i64 a2 511, by rw [← hW1]; simp⟩
        · exact ⟨0, by rw [← hW1]; simp⟩
        · exact ⟨1023, by rw [← hW1]; simp⟩
      have hlt : wr.heap.size < W1.heap.size := by rw [← hW1]; simp
      replace hCa := Aside0.mk (Kd.C_below hCa.out hB0)
      replace hCb := Aside0.mk (Kd.C_below hCb.out hB0)
      replace hCu := Aside0.mk (Kd.C_below hCu.out hB0)
      replace hCm := Aside0.mk (Kd.C_below hCm.out hB0)
      replace hCd := Aside0.mk (Kd.C_below hCd.out hB0)
      have HBY := Aside0.mk (below2 HBX.out hB0)
      have HLT := Aside0.mk hlt
      clear hW1 hB0 hlt HBX
      obtain ⟨wo, hwo⟩ : ∃ wo : World, wo = wr := ⟨_, rfl⟩
      subst hwo
      go_loopw [95] (fun v95 w' => ∃ n : Nat, v95 = .int .i64 n ∧ n ≤ 4 ∧ Aside0 (Below W1.heap.size W1 w')) (fun v95 _ => 4 - (intOf v95).toNat)
      case atStart => exact ⟨0, rfl, Nat.zero_le _, ⟨Below.refl _ _⟩⟩
      case round =>
        obtain ⟨n, rfl, hn, HBW⟩ := hrel
        by_cases hlt : n < 4
        · obtain ⟨x, hcell⟩ := HCELL.out n hlt
          have hcw : wr.cell? ⟨wo.heap.size, n, none⟩ = some (.int .i64 x) := (HBW.out.cell (p := ⟨wo.heap.size, n, none⟩) HLT.out).trans hcell
          clear hcell
          have e0 := Aside0.mk (has_inl l0 x)
          have e1 := Aside0.mk (has_inl l1 x)
          have eu := Aside0.mk (has_nrm (fun m => inl l0 m || inl l1 m) x)
          have em := Aside0.mk (has_nrm (fun m => inl l0 m && inl l1 m) x)
          have ed := Aside0.mk (has_nrm (fun m => inl l0 m && !inl l1 m) x)
          have en := Aside0.mk (has_nrm (inl l0) x)
          have qu : hasB (fun m => inl l0 m || inl l1 m) x = (hasB (inl l0) x || hasB (inl l1) x) := by simp only [hasB]; cases (decide (0 ≤ x) && decide (x < 1024)) <;> simp
          have qm : hasB (fun m => inl l0 m && inl l1 m) x = (hasB (inl l0) x && hasB (inl l1) x) := by simp only [hasB]; cases (decide (0 ≤ x) && decide (x < 1024)) <;> simp
          have qd : hasB (fun m => inl l0 m && !inl l1 m) x = (hasB (inl l0) x && !hasB (inl l1) x) := by simp only [hasB]; cases (decide (0 ≤ x) && decide (x < 1024)) <;> simp
          rw [qu] at eu
          rw [qm] at em
          rw [qd] at ed
          clear qu qm qd
          generalize hasB (inl l0) x = X at *
          generalize hasB (inl l1) x = Y at *
          go_wp2_with (go_at_call 23; (with_reducible refine (spans_Has.calls _ _ _ x X _ ?s1 ?s2 e0.out).mono ?_); (case s1 => exact Kd.C_below hCa.out HBW.out); (case s2 => exact HC0.out); rintro e wa ⟨rfl, hb⟩; have HDa := Aside0.mk (below2 HBW.out hb); clear hb; refine Aside0.out (p := _) ?_)
          refine ⟨?_⟩
          go_wp2_with (go_at_call 23; (with_reducible refine (spans_Has.calls _ _ _ x Y _ ?s1 ?s2 e1.out).mono ?_); (case s1 => exact Kd.C_below hCb.out HDa.out); (case s2 => exact HC1.out); rintro e wb ⟨rfl, hb⟩; have HDb := Aside0.mk (below2 HDa.out hb); clear hb; refine Aside0.out (p := _) ?_)
          refine ⟨?_⟩
          have HYW := Aside0.mk (trivial : True)
          cases X <;> cases Y
          all_goals
            simp only [Bool.or_false, Bool.or_true, Bool.and_false, Bool.and_true, Bool.not_false, Bool.not_true] at eu em ed
            go_wp2_with (go_at_call 23; (with_reducible refine (spans_Has.calls _ _ _ x _ _ ?s1 ?s2 eu.out).mono ?_); (case s1 => exact Kd.C_below hCu.out HDb.out); (case s2 => exact hcu.out); rintro e wc ⟨rfl, hb⟩; have HDc := Aside0.mk (below2 HDb.out hb); clear hb; refine Aside0.out (p := _) ?_)
            refine ⟨?_⟩
            go_wp2_with (go_at_call 23; (with_reducible refine (spans_Has.calls _ _ _ x _ _ ?s1 ?s2 em.out).mono ?_); (case s1 => exact Kd.C_below hCm.out HDc.out); (case s2 => exact hcm.out); rintro e wd ⟨rfl, hb⟩; have HDd := Aside0.mk (below2 HDc.out hb); clear hb; refine Aside0.out (p := _) ?_)
            refine ⟨?_⟩
            go_wp2_with (go_at_call 23; (with_reducible refine (spans_Has.calls _ _ _ x _ _ ?s1 ?s2 ed.out).mono ?_); (case s1 => exact Kd.C_below hCd.out HDd.out); (case s2 => exact hcd.out); rintro e we ⟨rfl, hb⟩; have HDe := Aside0.mk (below2 HDd.out hb); clear hb; refine Aside0.out (p := _) ?_)
            refine ⟨?_⟩
            go_wp2_with (go_at_call 15; (with_reducible refine (spans_Normal.calls _ _ l0 _ _ ?s1 ?s2 (normal_f l0)).mono ?_); (case s1 => exact Kd.C_below hCa.out HDe.out); (case s2 => exact HC0.out); rintro e wf ⟨vz, rfl, hu, hb⟩; obtain ⟨Az, cz, rfl⟩ := Kd.R_slice hu; have hCz := Aside0.mk (Kd.R_reads' hu).2.2; have hcz := Aside0.mk (Kd.R_reads' hu).2.1; have HDf := Aside0.mk (below2 HDe.out hb); clear hu hb; refine Aside0.out (p := _) ?_)
            refine ⟨?_⟩
            go_wp2_with (go_at_call 23; (with_reducible refine (spans_Has.calls _ _ _ x _ _ ?s1 ?s2 en.out).mono ?_); (case s1 => exact hCz.out); (case s2 => exact hcz.out); rintro e wg ⟨rfl, hb⟩; have HDg := Aside0.mk (below2 HDf.out hb); clear hb; refine Aside0.out (p := _) ?_)
            refine ⟨?_⟩
            go_wp2
            go_roundw
            case rel => exact ⟨n + 1, by go_num, hlt, ⟨HDg.out⟩⟩
            case measure => simp [intOf]; omega
        · go_wp2
          go_ret
          exact ⟨rfl, below2 HBY.out HBW.out⟩
end Go.Proofs.Ytcemfklhbgnflaa.P
