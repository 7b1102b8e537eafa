-- printed by gprint.py (a program of this seat over the kit's print.py): Lean checks it
import Derived.Test.YtcemfklhbgnflaaP0
import Derived.Test.YtcemfklhbgnflaaP2
import Derived.Test.YtcemfklhbgnflaaP3
import Derived.Test.YtcemfklhbgnflaaP4
import Derived.Test.YtcemfklhbgnflaaG
import Derived.Test.YtcemfklhbgnflaaH
namespace Go.Proofs.Ytcemfklhbgnflaa.P
open Go.RowKit Go.Proofs.YtcemfklhbgnflaaW.PrintWords Go.Proofs.YtcemfklhbgnflaaW.PrintLast Go.Proofs.YtcemfklhbgnflaaW.PrintMore
attribute [local go_sem] max2_int min2_int max_two min_two max_three min_three max_four min_four   -- for this text's walks alone
set_option linter.unusedVariables false
set_option linter.unusedSimpArgs false

/-! ### testamurlaw03_SpansAlgebra: function 7 -/
mutual
def testamurlaw03_SpansAlgebra.j0 : Nat → List (S31) → List (S31) → List (S31) → Option (Bool)
  | 0, _, _, _ => none
  | k + 1, x0, x1, x2 => (testamurref03_Few.f x0).bind fun t355 => (if t355 = true then ((testamurref03_Few.f x1).bind fun t356 => (if t356 = true then ((testamurref03_Few.f x2).bind fun t357 => (testamurlaw03_SpansAlgebra.j1 k x0 x1 x2 (!t357))) else (testamurlaw03_SpansAlgebra.j1 k x0 x1 x2 true))) else (testamurlaw03_SpansAlgebra.j1 k x0 x1 x2 true))
def testamurlaw03_SpansAlgebra.j1 : Nat → List (S31) → List (S31) → List (S31) → Bool → Option (Bool)
  | 0, _, _, _, _ => none
  | k + 1, x0, x1, x2, x22 => if x22 = true then (some true) else (testamurlaw03_SpansAlgebra.j2 k x0 x1 x2)
def testamurlaw03_SpansAlgebra.j2 : Nat → List (S31) → List (S31) → List (S31) → Option (Bool)
  | 0, _, _, _ => none
  | k + 1, x0, x1, x2 => (spans_Normal.f x0).bind fun t358 => ((spans_Union.f x0 x1).bind fun t361 => ((spans_Union.f x1 x0).bind fun t364 => ((testamurref03_Same.f k t361 t364).bind fun t367 => (if t367 = true then ((spans_Meet.f x0 x1).bind fun t368 => ((spans_Meet.f x1 x0).bind fun t371 => ((testamurref03_Same.f k t368 t371).bind fun t374 => (if t374 = true then ((spans_Union.f x0 x1).bind fun t375 => ((spans_Union.f t375 x2).bind fun t378 => ((spans_Union.f x1 x2).bind fun t381 => ((spans_Union.f x0 t381).bind fun t384 => ((testamurref03_Same.f k t378 t384).bind fun t387 => (if t387 = true then ((spans_Meet.f x0 x1).bind fun t388 => ((spans_Meet.f t388 x2).bind fun t391 => ((spans_Meet.f x1 x2).bind fun t394 => ((spans_Meet.f x0 t394).bind fun t397 => ((testamurref03_Same.f k t391 t397).bind fun t400 => (if t400 = true then ((spans_Union.f x1 x2).bind fun t401 => ((spans_Meet.f x0 t401).bind fun t404 => ((spans_Meet.f x0 x1).bind fun t407 => ((spans_Meet.f x0 x2).bind fun t410 => ((spans_Union.f t407 t410).bind fun t413 => ((testamurref03_Same.f k t404 t413).bind fun t416 => (if t416 = true then ((spans_Union.f x0 x0).bind fun t417 => ((testamurref03_Same.f k t417 t358).bind fun t420 => (if t420 = true then ((spans_Meet.f x0 x0).bind fun t421 => ((testamurref03_Same.f k t421 t358).bind fun t424 => (if t424 = true then ((spans_Normal.f t358).bind fun t425 => ((testamurref03_Same.f k t425 t358).bind fun t428 => (if t428 = true then ((spans_Union.f x1 x2).bind fun t429 => ((spans_Minus.f x0 t429).bind fun t432 => ((spans_Minus.f x0 x1).bind fun t435 => ((spans_Minus.f t435 x2).bind fun t438 => ((testamurref03_Same.f k t432 t438).bind fun t441 => (if t441 = true then ((spans_Minus.f x0 x0).bind fun t442 => (some ((t442.length : Int) == 0))) else (none))))))) else (none)))) else (none)))) else (none)))) else (none)))))))) else (none))))))) else (none))))))) else (none))))) else (none)))))
end
def testamurlaw03_SpansAlgebra.f (k : Nat) (l0 : List (S31)) (l1 : List (S31)) (l2 : List (S31)) : Option (Bool) := (testamurlaw03_sane.f k).bind fun t354 => (if t354 = true then (testamurlaw03_SpansAlgebra.j0 k l0 l1 l2) else (none))
theorem testamurlaw03_SpansAlgebra.mono_l : ∀ k, (∀ y0 y1 y2, LeO (testamurlaw03_SpansAlgebra.j0 k y0 y1 y2) (testamurlaw03_SpansAlgebra.j0 (k + 1) y0 y1 y2)) ∧ (∀ y0 y1 y2 y3, LeO (testamurlaw03_SpansAlgebra.j1 k y0 y1 y2 y3) (testamurlaw03_SpansAlgebra.j1 (k + 1) y0 y1 y2 y3)) ∧ (∀ y0 y1 y2, LeO (testamurlaw03_SpansAlgebra.j2 k y0 y1 y2) (testamurlaw03_SpansAlgebra.j2 (k + 1) y0 y1 y2))
  | 0 => ⟨fun _ _ _ r h => by simp [testamurlaw03_SpansAlgebra.j0] at h, fun _ _ _ _ r h => by simp [testamurlaw03_SpansAlgebra.j1] at h, fun _ _ _ r h => by simp [testamurlaw03_SpansAlgebra.j2] at h⟩
  | k + 1 => by
    obtain ⟨ih0, ih1, ih2⟩ := testamurlaw03_SpansAlgebra.mono_l k
    refine ⟨?_, ?_, ?_⟩
    · intro y0 y1 y2
      unfold testamurlaw03_SpansAlgebra.j0
      repeat' first
      | (with_reducible exact ih0 _ _ _)
      | (with_reducible exact ih1 _ _ _ _)
      | (with_reducible exact ih2 _ _ _)
      | (with_reducible exact testamurlaw03_sane.mono _)
      | (with_reducible exact testamurref03_Same.mono _ _ _)
      | (with_reducible exact LeO.refl _)
      | (with_reducible exact LeO.none _)
      | (with_reducible refine LeO.ite ?_ ?_)
      | (with_reducible refine LeO.bind ?_ (fun _ => ?_))
      | exact ih0 _ _ _
      | exact ih1 _ _ _ _
      | exact ih2 _ _ _
      | exact testamurlaw03_sane.mono _
      | exact testamurref03_Same.mono _ _ _
      | exact LeO.none _
      | refine LeO.ite ?_ ?_
      | refine LeO.bind ?_ (fun _ => ?_)
    · intro y0 y1 y2 y3
      unfold testamurlaw03_SpansAlgebra.j1
      repeat' first
      | (with_reducible exact ih0 _ _ _)
      | (with_reducible exact ih1 _ _ _ _)
      | (with_reducible exact ih2 _ _ _)
      | (with_reducible exact testamurlaw03_sane.mono _)
      | (with_reducible exact testamurref03_Same.mono _ _ _)
      | (with_reducible exact LeO.refl _)
      | (with_reducible exact LeO.none _)
      | (with_reducible refine LeO.ite ?_ ?_)
      | (with_reducible refine LeO.bind ?_ (fun _ => ?_))
      | exact ih0 _ _ _
      | exact ih1 _ _ _ _
      | exact ih2 _ _ _
      | exact testamurlaw03_sane.mono _
      | exact testamurref03_Same.mono _ _ _
      | exact LeO.none _
      | refine LeO.ite ?_ ?_
      | refine LeO.bind ?_ (fun _ => ?_)
    · intro y0 y1 y2
      unfold testamurlaw03_SpansAlgebra.j2
      repeat' first
      | (with_reducible exact ih0 _ _ _)
      | (with_reducible exact ih1 _ _ _ _)
      | (with_reducible exact ih2 _ _ _)
      | (with_reducible exact testamurlaw03_sane.mono _)
      | (with_reducible exact testamurref03_Same.mono _ _ _)
      | (with_reducible exact LeO.refl _)
      | (with_reducible exact LeO.none _)
      | (with_reducible refine LeO.ite ?_ ?_)
      | (with_reducible refine LeO.bind ?_ (fun _ => ?_))
      | exact ih0 _ _ _
      | exact ih1 _ _ _ _
      | exact ih2 _ _ _
      | exact testamurlaw03_sane.mono _
      | exact testamurref03_Same.mono _ _ _
      | exact LeO.none _
      | refine LeO.ite ?_ ?_
      | refine LeO.bind ?_ (fun _ => ?_)
theorem testamurlaw03_SpansAlgebra.mono : ∀ a0 a1 a2 k, LeO (testamurlaw03_SpansAlgebra.f k a0 a1 a2) (testamurlaw03_SpansAlgebra.f (k + 1) a0 a1 a2) := by
  intro a0 a1 a2 k
  obtain ⟨ih0, ih1, ih2⟩ := testamurlaw03_SpansAlgebra.mono_l k
  unfold testamurlaw03_SpansAlgebra.f
  repeat' first
      | (with_reducible exact ih0 _ _ _)
      | (with_reducible exact ih1 _ _ _ _)
      | (with_reducible exact ih2 _ _ _)
      | (with_reducible exact testamurlaw03_sane.mono _)
      | (with_reducible exact testamurref03_Same.mono _ _ _)
      | (with_reducible exact LeO.refl _)
      | (with_reducible exact LeO.none _)
      | (with_reducible refine LeO.ite ?_ ?_)
      | (with_reducible refine LeO.bind ?_ (fun _ => ?_))
      | exact ih0 _ _ _
      | exact ih1 _ _ _ _
      | exact ih2 _ _ _
      | exact testamurlaw03_sane.mono _
      | exact testamurref03_Same.mono _ _ _
      | exact LeO.none _
      | refine LeO.ite ?_ ?_
      | refine LeO.bind ?_ (fun _ => ?_)
set_option maxHeartbeats 8000000 in
set_option maxRecDepth 100000 in
theorem testamurlaw03_SpansAlgebra.calls (k : Nat) (A0 : Option Addr) (c0 : Nat) (l0 : List (S31)) (A1 : Option Addr) (c1 : Nat) (l1 : List (S31)) (A2 : Option Addr) (c2 : Nat) (l2 : List (S31)) (r : Bool) (w : World) (hr0 : Kd.C k31 w A0 l0.length l0) (hc0 : l0.length ≤ c0) (hr1 : Kd.C k31 w A1 l1.length l1) (hc1 : l1.length ≤ c1) (hr2 : Kd.C k31 w A2 l2.length l2) (hc2 : l2.length ≤ c2) (h : testamurlaw03_SpansAlgebra.f k l0 l1 l2 = some r) :
    Calls Try.prog 7 #[.slice A0 l0.length c0, .slice A1 l1.length c1, .slice A2 l2.length c2] w fun e w' => e = .returned (.bool r) ∧ Below w.heap.size w w' := by
  have HR0 := Aside0.mk hr0
  have HC0 := Aside0.mk hc0
  clear hr0 hc0
  have HR1 := Aside0.mk hr1
  have HC1 := Aside0.mk hc1
  clear hr1 hc1
  have HR2 := Aside0.mk hr2
  have HC2 := Aside0.mk hc2
  clear hr2 hc2
  have HB := Aside0.mk (Below.refl w.heap.size w)
  have H : ((testamurlaw03_sane.f k).bind fun t354 => (if t354 = true then (testamurlaw03_SpansAlgebra.j0 k l0 l1 l2) else (none))) = some r := h
  clear h
  replace H := Option.bind_eq_some_iff.mp H
  obtain ⟨t354, A40, H⟩ := H
  replace H : (if t354 = true then (testamurlaw03_SpansAlgebra.j0 k l0 l1 l2) else (none)) = some r := H
  have A4 := Aside0.mk A40
  clear A40
  have HC5 := Aside0.mk H
  clear H
  go_enter Try.func7, Try.ntmps7
  try simp only [List.append]
  go_upto_if 9 with (first | ((with_reducible refine gate_callee (f := 10) rfl ?_); refine goesL_ (some 8) rfl rfl Try.func10 (by kernel_rfl) rfl #[] rfl (by (try simp only [List.map_toArray, List.map_cons, List.map_nil]); first | done | rfl | (simp only [List.length_drop, List.length_take]; rfl)) ?_; (with_reducible refine (testamurlaw03_sane.calls k  t354 _ A4.out).mono ?_); rintro e w6 ⟨rfl, hb⟩; refine ⟨_, rfl, ?_⟩; have n0_ := Aside0.mk (below_step (by repeat (first | (with_reducible first | exact HB.out | apply below_alloc | apply pw_below_drewN | apply below_drew1) | exact HB.out)) hb); clear HB; have HB := n0_; clear n0_; (try clear hb); (try clear hb2); (try clear hk); (try clear hi)))
  (try simp only [Act.put, List.setIfInBounds_toArray, List.set_cons_zero, List.set_cons_succ])
  go_cut [] (fun wc => ∃ (kq : Nat), Aside0 (testamurlaw03_SpansAlgebra.j0 kq l0 l1 l2 = some r) ∧ Aside0 (kq ≤ k) ∧ Aside0 (Below w.heap.size w wc))
  case first =>
    have H := HC5.out
    clear HC5
    by_cases c7 : t354 = true
    · subst c7
      have H1 : (testamurlaw03_SpansAlgebra.j0 k l0 l1 l2) = some r := by rw [if_pos rfl] at H; exact H
      clear H
      have H := H1
      clear H1
      have H' := Aside0.mk H
      clear H
      go_wp2
      go_meet
      case rel => exact ⟨_, H', ⟨by first | omega | exact Nat.le_refl _⟩, ⟨by repeat (first | (with_reducible first | exact HB.out | apply below_alloc | apply pw_below_drewN | apply below_drew1) | exact HB.out)⟩⟩
    · replace c7 := Bool.eq_false_iff.mpr c7
      subst c7
      have H1 : (none) = some r := by rw [if_neg (show ¬ (false = true) by decide)] at H; exact H
      clear H
      have H := H1
      clear H1
      exact absurd H (by simp)
  case rest =>
    clear HC5
    try clear c1
    try clear c2
    try clear p2
    try clear c7
    obtain ⟨kq, HA, HJ4, HB⟩ := hcut
    cases kq with
    | zero => exact absurd HA.out (by simp [testamurlaw03_SpansAlgebra.j0])
    | succ kj4 =>
      have H := HA.out
      clear HA
      simp only [testamurlaw03_SpansAlgebra.j0] at H
      have HC8 := Aside0.mk H
      clear H
      go_upto_region 3 with (fail)
      go_cut [22] (fun v22 wc => ∃ (kq : Nat) (x22_7 : Bool), v22 = .bool x22_7 ∧ Aside0 (testamurlaw03_SpansAlgebra.j1 kq l0 l1 l2 x22_7 = some r) ∧ Aside0 (kq ≤ kj4) ∧ Aside0 (Below w.heap.size w wc))
      case first =>
        have H := HC8.out
        clear HC8
        replace H := Option.bind_eq_some_iff.mp H
        obtain ⟨t355, A90, H⟩ := H
        replace H : (if t355 = true then ((testamurref03_Few.f l1).bind fun t356 => (if t356 = true then ((testamurref03_Few.f l2).bind fun t357 => (testamurlaw03_SpansAlgebra.j1 kj4 l0 l1 l2 (!t357))) else (testamurlaw03_SpansAlgebra.j1 kj4 l0 l1 l2 true))) else (testamurlaw03_SpansAlgebra.j1 kj4 l0 l1 l2 true)) = some r := H
        have A9 := Aside0.mk A90
        clear A90
        by_cases c10 : t355 = true
        · subst c10
          have H1 : ((testamurref03_Few.f l1).bind fun t356 => (if t356 = true then ((testamurref03_Few.f l2).bind fun t357 => (testamurlaw03_SpansAlgebra.j1 kj4 l0 l1 l2 (!t357))) else (testamurlaw03_SpansAlgebra.j1 kj4 l0 l1 l2 true))) = some r := by rw [if_pos rfl] at H; exact H
          clear H
          have H := H1
          clear H1
          replace H := Option.bind_eq_some_iff.mp H
          obtain ⟨t356, A110, H⟩ := H
          replace H : (if t356 = true then ((testamurref03_Few.f l2).bind fun t357 => (testamurlaw03_SpansAlgebra.j1 kj4 l0 l1 l2 (!t357))) else (testamurlaw03_SpansAlgebra.j1 kj4 l0 l1 l2 true)) = some r := H
          have A11 := Aside0.mk A110
          clear A110
          by_cases c12 : t356 = true
          · subst c12
            have H1 : ((testamurref03_Few.f l2).bind fun t357 => (testamurlaw03_SpansAlgebra.j1 kj4 l0 l1 l2 (!t357))) = some r := by rw [if_pos rfl] at H; exact H
            clear H
            have H := H1
            clear H1
            replace H := Option.bind_eq_some_iff.mp H
            obtain ⟨t357, A130, H⟩ := H
            replace H : (testamurlaw03_SpansAlgebra.j1 kj4 l0 l1 l2 (!t357)) = some r := H
            have A13 := Aside0.mk A130
            clear A130
            have H' := Aside0.mk H
            clear H
            go_wp2_with ((with_reducible refine gate_callee (f := 11) rfl ?_); refine Aside0.out (p := _) ?_)
            refine ⟨?_⟩
            refine goesL_ (some 11) rfl rfl Try.func11 (by kernel_rfl) rfl #[.slice A0 l0.length c0] rfl (by (try simp only [List.map_toArray, List.map_cons, List.map_nil]); first | done | rfl | (simp only [List.length_drop, List.length_take]; rfl)) ?_
            (with_reducible refine (testamurref03_Few.calls _ _ l0 true _ ?side1 ?side2 A9.out).mono ?_)
            (case side1 => repeat (first | exact (Kd.C_below HR0.out HB.out) | (with_reducible refine Kd.C_alloc ?_ _) | (with_reducible refine Kd.C_drewN ?_ _) | (with_reducible refine Kd.C_drew ?_)))
            (case side2 => exact HC0.out)
            rintro e w' ⟨rfl, ⟨nd, rfl⟩⟩
            refine ⟨_, rfl, ?_⟩
            go_wp2_with (go_at_call 11; (with_reducible refine (testamurref03_Few.calls _ _ l1 true _ ?side1 ?side2 A11.out).mono ?_); (case side1 => repeat (first | exact (Kd.C_below HR1.out (by repeat (first | (with_reducible first | exact HB.out | apply below_alloc | apply pw_below_drewN | apply below_drew1) | exact HB.out))) | (with_reducible refine Kd.C_alloc ?_ _) | (with_reducible refine Kd.C_drewN ?_ _) | (with_reducible refine Kd.C_drew ?_))); (case side2 => exact HC1.out); refine Aside0.out (p := _) ?_)
            refine ⟨?_⟩
            rintro e w' ⟨rfl, ⟨nd, rfl⟩⟩
            go_wp2_with (go_at_call 11; (with_reducible refine (testamurref03_Few.calls _ _ l2 t357 _ ?side1 ?side2 A13.out).mono ?_); (case side1 => repeat (first | exact (Kd.C_below HR2.out (by repeat (first | (with_reducible first | exact HB.out | apply below_alloc | apply pw_below_drewN | apply below_drew1) | exact HB.out))) | (with_reducible refine Kd.C_alloc ?_ _) | (with_reducible refine Kd.C_drewN ?_ _) | (with_reducible refine Kd.C_drew ?_))); (case side2 => exact HC2.out); refine Aside0.out (p := _) ?_)
            refine ⟨?_⟩
            rintro e w' ⟨rfl, ⟨nd, rfl⟩⟩
            go_wp2
            go_meet
            case rel => exact ⟨_, (!t357), (by first | rfl | (simp; done) | (simp [*]; done)), H', ⟨by have := HJ4.out; first | omega | exact Nat.le_refl _⟩, ⟨by repeat (first | (with_reducible first | exact HB.out | apply below_alloc | apply pw_below_drewN | apply below_drew1) | exact HB.out)⟩⟩
          · replace c12 := Bool.eq_false_iff.mpr c12
            subst c12
            have H1 : (testamurlaw03_SpansAlgebra.j1 kj4 l0 l1 l2 true) = some r := by rw [if_neg (show ¬ (false = true) by decide)] at H; exact H
            clear H
            have H := H1
            clear H1
            have H' := Aside0.mk H
            clear H
            go_wp2_with ((with_reducible refine gate_callee (f := 11) rfl ?_); refine Aside0.out (p := _) ?_)
            refine ⟨?_⟩
            refine goesL_ (some 11) rfl rfl Try.func11 (by kernel_rfl) rfl #[.slice A0 l0.length c0] rfl (by (try simp only [List.map_toArray, List.map_cons, List.map_nil]); first | done | rfl | (simp only [List.length_drop, List.length_take]; rfl)) ?_
            (with_reducible refine (testamurref03_Few.calls _ _ l0 true _ ?side1 ?side2 A9.out).mono ?_)
            (case side1 => repeat (first | exact (Kd.C_below HR0.out HB.out) | (with_reducible refine Kd.C_alloc ?_ _) | (with_reducible refine Kd.C_drewN ?_ _) | (with_reducible refine Kd.C_drew ?_)))
            (case side2 => exact HC0.out)
            rintro e w' ⟨rfl, ⟨nd, rfl⟩⟩
            refine ⟨_, rfl, ?_⟩
            go_wp2_with (go_at_call 11; (with_reducible refine (testamurref03_Few.calls _ _ l1 false _ ?side1 ?side2 A11.out).mono ?_); (case side1 => repeat (first | exact (Kd.C_below HR1.out (by repeat (first | (with_reducible first | exact HB.out | apply below_alloc | apply pw_below_drewN | apply below_drew1) | exact HB.out))) | (with_reducible refine Kd.C_alloc ?_ _) | (with_reducible refine Kd.C_drewN ?_ _) | (with_reducible refine Kd.C_drew ?_))); (case side2 => exact HC1.out); refine Aside0.out (p := _) ?_)
            refine ⟨?_⟩
            rintro e w' ⟨rfl, ⟨nd, rfl⟩⟩
            go_wp2
            go_meet
            case rel => exact ⟨_, (true), (by first | rfl | (simp; done) | (simp [*]; done)), H', ⟨by have := HJ4.out; first | omega | exact Nat.le_refl _⟩, ⟨by repeat (first | (with_reducible first | exact HB.out | apply below_alloc | apply pw_below_drewN | apply below_drew1) | exact HB.out)⟩⟩
        · replace c10 := Bool.eq_false_iff.mpr c10
          subst c10
          have H1 : (testamurlaw03_SpansAlgebra.j1 kj4 l0 l1 l2 true) = some r := by rw [if_neg (show ¬ (false = true) by decide)] at H; exact H
          clear H
          have H := H1
          clear H1
          have H' := Aside0.mk H
          clear H
          go_wp2_with ((with_reducible refine gate_callee (f := 11) rfl ?_); refine Aside0.out (p := _) ?_)
          refine ⟨?_⟩
          refine goesL_ (some 11) rfl rfl Try.func11 (by kernel_rfl) rfl #[.slice A0 l0.length c0] rfl (by (try simp only [List.map_toArray, List.map_cons, List.map_nil]); first | done | rfl | (simp only [List.length_drop, List.length_take]; rfl)) ?_
          (with_reducible refine (testamurref03_Few.calls _ _ l0 false _ ?side1 ?side2 A9.out).mono ?_)
          (case side1 => repeat (first | exact (Kd.C_below HR0.out HB.out) | (with_reducible refine Kd.C_alloc ?_ _) | (with_reducible refine Kd.C_drewN ?_ _) | (with_reducible refine Kd.C_drew ?_)))
          (case side2 => exact HC0.out)
          rintro e w' ⟨rfl, ⟨nd, rfl⟩⟩
          refine ⟨_, rfl, ?_⟩
          go_wp2
          go_meet
          case rel => exact ⟨_, (true), (by first | rfl | (simp; done) | (simp [*]; done)), H', ⟨by have := HJ4.out; first | omega | exact Nat.le_refl _⟩, ⟨by repeat (first | (with_reducible first | exact HB.out | apply below_alloc | apply pw_below_drewN | apply below_drew1) | exact HB.out)⟩⟩
      case rest =>
        clear HC8
        try clear c1
        try clear c2
        try clear p2
        try clear c7
        try clear c10
        try clear c11
        try clear c12
        try clear p2
        obtain ⟨kq, x22_7, rfl, HA, HJ7, HB⟩ := hcut
        cases kq with
        | zero => exact absurd HA.out (by simp [testamurlaw03_SpansAlgebra.j1])
        | succ kj7 =>
          have H := HA.out
          clear HA
          simp only [testamurlaw03_SpansAlgebra.j1] at H
          have HC14 := Aside0.mk H
          clear H
          go_upto_if 22 with (fail)
          go_cut [] (fun wc => ∃ (kq : Nat), Aside0 (testamurlaw03_SpansAlgebra.j2 kq l0 l1 l2 = some r) ∧ Aside0 (kq ≤ kj7) ∧ Aside0 (Below w.heap.size w wc))
          case first =>
            have H := HC14.out
            clear HC14
            by_cases c15 : x22_7 = true
            · subst c15
              have H1 : (some true) = some r := by rw [if_pos rfl] at H; exact H
              clear H
              have H := H1
              clear H1
              obtain rfl := Option.some.inj H
              go_wp2
              go_ret
              exact ⟨by first | rfl | (simp [errW_none, errW_some] <;> rfl) | (simp [*, errW_none, errW_some] <;> rfl), by repeat (first | (with_reducible first | exact HB.out | apply below_alloc | apply pw_below_drewN | apply below_drew1) | exact HB.out)⟩
            · replace c15 := Bool.eq_false_iff.mpr c15
              subst c15
              have H1 : (testamurlaw03_SpansAlgebra.j2 kj7 l0 l1 l2) = some r := by rw [if_neg (show ¬ (false = true) by decide)] at H; exact H
              clear H
              have H := H1
              clear H1
              have H' := Aside0.mk H
              clear H
              go_wp2
              go_meet
              case rel => exact ⟨_, H', ⟨by have := HJ4.out; have := HJ7.out; first | omega | exact Nat.le_refl _⟩, ⟨by repeat (first | (with_reducible first | exact HB.out | apply below_alloc | apply pw_below_drewN | apply below_drew1) | exact HB.out)⟩⟩
          case rest =>
            clear HC14
            try clear c1
            try clear c2
            try clear p2
            try clear c7
            try clear c10
            try clear c11
            try clear c12
            try clear c15
            try clear p2
            obtain ⟨kq, HA, HJ13, HB⟩ := hcut
            cases kq with
            | zero => exact absurd HA.out (by simp [testamurlaw03_SpansAlgebra.j2])
            | succ kj13 =>
              have H := HA.out
              clear HA
              simp only [testamurlaw03_SpansAlgebra.j2] at H
              replace H := Option.bind_eq_some_iff.mp H
              obtain ⟨t358, A160, H⟩ := H
              replace H : ((spans_Union.f l0 l1).bind fun t361 => ((spans_Union.f l1 l0).bind fun t364 => ((testamurref03_Same.f kj13 t361 t364).bind fun t367 => (if t367 = true then ((spans_Meet.f l0 l1).bind fun t368 => ((spans_Meet.f l1 l0).bind fun t371 => ((testamurref03_Same.f kj13 t368 t371).bind fun t374 => (if t374 = true then ((spans_Union.f l0 l1).bind fun t375 => ((spans_Union.f t375 l2).bind fun t378 => ((spans_Union.f l1 l2).bind fun t381 => ((spans_Union.f l0 t381).bind fun t384 => ((testamurref03_Same.f kj13 t378 t384).bind fun t387 => (if t387 = true then ((spans_Meet.f l0 l1).bind fun t388 => ((spans_Meet.f t388 l2).bind fun t391 => ((spans_Meet.f l1 l2).bind fun t394 => ((spans_Meet.f l0 t394).bind fun t397 => ((testamurref03_Same.f kj13 t391 t397).bind fun t400 => (if t400 = true then ((spans_Union.f l1 l2).bind fun t401 => ((spans_Meet.f l0 t401).bind fun t404 => ((spans_Meet.f l0 l1).bind fun t407 => ((spans_Meet.f l0 l2).bind fun t410 => ((spans_Union.f t407 t410).bind fun t413 => ((testamurref03_Same.f kj13 t404 t413).bind fun t416 => (if t416 = true then ((spans_Union.f l0 l0).bind fun t417 => ((testamurref03_Same.f kj13 t417 t358).bind fun t420 => (if t420 = true then ((spans_Meet.f l0 l0).bind fun t421 => ((testamurref03_Same.f kj13 t421 t358).bind fun t424 => (if t424 = true then ((spans_Normal.f t358).bind fun t425 => ((testamurref03_Same.f kj13 t425 t358).bind fun t428 => (if t428 = true then ((spans_Union.f l1 l2).bind fun t429 => ((spans_Minus.f l0 t429).bind fun t432 => ((spans_Minus.f l0 l1).bind fun t435 => ((spans_Minus.f t435 l2).bind fun t438 => ((testamurref03_Same.f kj13 t432 t438).bind fun t441 => (if t441 = true then ((spans_Minus.f l0 l0).bind fun t442 => (some ((t442.length : Int) == 0))) else (none))))))) else (none)))) else (none)))) else (none)))) else (none)))))))) else (none))))))) else (none))))))) else (none))))) else (none))))) = some r := H
              have A16 := Aside0.mk A160
              clear A160
              replace H := Option.bind_eq_some_iff.mp H
              obtain ⟨t361, A170, H⟩ := H
              replace H : ((spans_Union.f l1 l0).bind fun t364 => ((testamurref03_Same.f kj13 t361 t364).bind fun t367 => (if t367 = true then ((spans_Meet.f l0 l1).bind fun t368 => ((spans_Meet.f l1 l0).bind fun t371 => ((testamurref03_Same.f kj13 t368 t371).bind fun t374 => (if t374 = true then ((spans_Union.f l0 l1).bind fun t375 => ((spans_Union.f t375 l2).bind fun t378 => ((spans_Union.f l1 l2).bind fun t381 => ((spans_Union.f l0 t381).bind fun t384 => ((testamurref03_Same.f kj13 t378 t384).bind fun t387 => (if t387 = true then ((spans_Meet.f l0 l1).bind fun t388 => ((spans_Meet.f t388 l2).bind fun t391 => ((spans_Meet.f l1 l2).bind fun t394 => ((spans_Meet.f l0 t394).bind fun t397 => ((testamurref03_Same.f kj13 t391 t397).bind fun t400 => (if t400 = true then ((spans_Union.f l1 l2).bind fun t401 => ((spans_Meet.f l0 t401).bind fun t404 => ((spans_Meet.f l0 l1).bind fun t407 => ((spans_Meet.f l0 l2).bind fun t410 => ((spans_Union.f t407 t410).bind fun t413 => ((testamurref03_Same.f kj13 t404 t413).bind fun t416 => (if t416 = true then ((spans_Union.f l0 l0).bind fun t417 => ((testamurref03_Same.f kj13 t417 t358).bind fun t420 => (if t420 = true then ((spans_Meet.f l0 l0).bind fun t421 => ((testamurref03_Same.f kj13 t421 t358).bind fun t424 => (if t424 = true then ((spans_Normal.f t358).bind fun t425 => ((testamurref03_Same.f kj13 t425 t358).bind fun t428 => (if t428 = true then ((spans_Union.f l1 l2).bind fun t429 => ((spans_Minus.f l0 t429).bind fun t432 => ((spans_Minus.f l0 l1).bind fun t435 => ((spans_Minus.f t435 l2).bind fun t438 => ((testamurref03_Same.f kj13 t432 t438).bind fun t441 => (if t441 = true then ((spans_Minus.f l0 l0).bind fun t442 => (some ((t442.length : Int) == 0))) else (none))))))) else (none)))) else (none)))) else (none)))) else (none)))))))) else (none))))))) else (none))))))) else (none))))) else (none)))) = some r := H
              have A17 := Aside0.mk A170
              clear A170
              replace H := Option.bind_eq_some_iff.mp H
              obtain ⟨t364, A180, H⟩ := H
              replace H : ((testamurref03_Same.f kj13 t361 t364).bind fun t367 => (if t367 = true then ((spans_Meet.f l0 l1).bind fun t368 => ((spans_Meet.f l1 l0).bind fun t371 => ((testamurref03_Same.f kj13 t368 t371).bind fun t374 => (if t374 = true then ((spans_Union.f l0 l1).bind fun t375 => ((spans_Union.f t375 l2).bind fun t378 => ((spans_Union.f l1 l2).bind fun t381 => ((spans_Union.f l0 t381).bind fun t384 => ((testamurref03_Same.f kj13 t378 t384).bind fun t387 => (if t387 = true then ((spans_Meet.f l0 l1).bind fun t388 => ((spans_Meet.f t388 l2).bind fun t391 => ((spans_Meet.f l1 l2).bind fun t394 => ((spans_Meet.f l0 t394).bind fun t397 => ((testamurref03_Same.f kj13 t391 t397).bind fun t400 => (if t400 = true then ((spans_Union.f l1 l2).bind fun t401 => ((spans_Meet.f l0 t401).bind fun t404 => ((spans_Meet.f l0 l1).bind fun t407 => ((spans_Meet.f l0 l2).bind fun t410 => ((spans_Union.f t407 t410).bind fun t413 => ((testamurref03_Same.f kj13 t404 t413).bind fun t416 => (if t416 = true then ((spans_Union.f l0 l0).bind fun t417 => ((testamurref03_Same.f kj13 t417 t358).bind fun t420 => (if t420 = true then ((spans_Meet.f l0 l0).bind fun t421 => ((testamurref03_Same.f kj13 t421 t358).bind fun t424 => (if t424 = true then ((spans_Normal.f t358).bind fun t425 => ((testamurref03_Same.f kj13 t425 t358).bind fun t428 => (if t428 = true then ((spans_Union.f l1 l2).bind fun t429 => ((spans_Minus.f l0 t429).bind fun t432 => ((spans_Minus.f l0 l1).bind fun t435 => ((spans_Minus.f t435 l2).bind fun t438 => ((testamurref03_Same.f kj13 t432 t438).bind fun t441 => (if t441 = true then ((spans_Minus.f l0 l0).bind fun t442 => (some ((t442.length : Int) == 0))) else (none))))))) else (none)))) else (none)))) else (none)))) else (none)))))))) else (none))))))) else (none))))))) else (none))))) else (none))) = some r := H
              have A18 := Aside0.mk A180
              clear A180
              replace H := Option.bind_eq_some_iff.mp H
              obtain ⟨t367, A190, H⟩ := H
              replace H : (if t367 = true then ((spans_Meet.f l0 l1).bind fun t368 => ((spans_Meet.f l1 l0).bind fun t371 => ((testamurref03_Same.f kj13 t368 t371).bind fun t374 => (if t374 = true then ((spans_Union.f l0 l1).bind fun t375 => ((spans_Union.f t375 l2).bind fun t378 => ((spans_Union.f l1 l2).bind fun t381 => ((spans_Union.f l0 t381).bind fun t384 => ((testamurref03_Same.f kj13 t378 t384).bind fun t387 => (if t387 = true then ((spans_Meet.f l0 l1).bind fun t388 => ((spans_Meet.f t388 l2).bind fun t391 => ((spans_Meet.f l1 l2).bind fun t394 => ((spans_Meet.f l0 t394).bind fun t397 => ((testamurref03_Same.f kj13 t391 t397).bind fun t400 => (if t400 = true then ((spans_Union.f l1 l2).bind fun t401 => ((spans_Meet.f l0 t401).bind fun t404 => ((spans_Meet.f l0 l1).bind fun t407 => ((spans_Meet.f l0 l2).bind fun t410 => ((spans_Union.f t407 t410).bind fun t413 => ((testamurref03_Same.f kj13 t404 t413).bind fun t416 => (if t416 = true then ((spans_Union.f l0 l0).bind fun t417 => ((testamurref03_Same.f kj13 t417 t358).bind fun t420 => (if t420 = true then ((spans_Meet.f l0 l0).bind fun t421 => ((testamurref03_Same.f kj13 t421 t358).bind fun t424 => (if t424 = true then ((spans_Normal.f t358).bind fun t425 => ((testamurref03_Same.f kj13 t425 t358).bind fun t428 => (if t428 = true then ((spans_Union.f l1 l2).bind fun t429 => ((spans_Minus.f l0 t429).bind fun t432 => ((spans_Minus.f l0 l1).bind fun t435 => ((spans_Minus.f t435 l2).bind fun t438 => ((testamurref03_Same.f kj13 t432 t438).bind fun t441 => (if t441 = true then ((spans_Minus.f l0 l0).bind fun t442 => (some ((t442.length : Int) == 0))) else (none))))))) else (none)))) else (none)))) else (none)))) else (none)))))))) else (none))))))) else (none))))))) else (none))))) else (none)) = some r := H
              have A19 := Aside0.mk A190
              clear A190
              by_cases c20 : t367 = true
              · subst c20
                have H1 : ((spans_Meet.f l0 l1).bind fun t368 => ((spans_Meet.f l1 l0).bind fun t371 => ((testamurref03_Same.f kj13 t368 t371).bind fun t374 => (if t374 = true then ((spans_Union.f l0 l1).bind fun t375 => ((spans_Union.f t375 l2).bind fun t378 => ((spans_Union.f l1 l2).bind fun t381 => ((spans_Union.f l0 t381).bind fun t384 => ((testamurref03_Same.f kj13 t378 t384).bind fun t387 => (if t387 = true then ((spans_Meet.f l0 l1).bind fun t388 => ((spans_Meet.f t388 l2).bind fun t391 => ((spans_Meet.f l1 l2).bind fun t394 => ((spans_Meet.f l0 t394).bind fun t397 => ((testamurref03_Same.f kj13 t391 t397).bind fun t400 => (if t400 = true then ((spans_Union.f l1 l2).bind fun t401 => ((spans_Meet.f l0 t401).bind fun t404 => ((spans_Meet.f l0 l1).bind fun t407 => ((spans_Meet.f l0 l2).bind fun t410 => ((spans_Union.f t407 t410).bind fun t413 => ((testamurref03_Same.f kj13 t404 t413).bind fun t416 => (if t416 = true then ((spans_Union.f l0 l0).bind fun t417 => ((testamurref03_Same.f kj13 t417 t358).bind fun t420 => (if t420 = true then ((spans_Meet.f l0 l0).bind fun t421 => ((testamurref03_Same.f kj13 t421 t358).bind fun t424 => (if t424 = true then ((spans_Normal.f t358).bind fun t425 => ((testamurref03_Same.f kj13 t425 t358).bind fun t428 => (if t428 = true then ((spans_Union.f l1 l2).bind fun t429 => ((spans_Minus.f l0 t429).bind fun t432 => ((spans_Minus.f l0 l1).bind fun t435 => ((spans_Minus.f t435 l2).bind fun t438 => ((testamurref03_Same.f kj13 t432 t438).bind fun t441 => (if t441 = true then ((spans_Minus.f l0 l0).bind fun t442 => (some ((t442.length : Int) == 0))) else (none))))))) else (none)))) else (none)))) else (none)))) else (none)))))))) else (none))))))) else (none))))))) else (none))))) = some r := by rw [if_pos rfl] at H; exact H
                clear H
                have H := H1
                clear H1
                replace H := Option.bind_eq_some_iff.mp H
                obtain ⟨t368, A210, H⟩ := H
                replace H : ((spans_Meet.f l1 l0).bind fun t371 => ((testamurref03_Same.f kj13 t368 t371).bind fun t374 => (if t374 = true then ((spans_Union.f l0 l1).bind fun t375 => ((spans_Union.f t375 l2).bind fun t378 => ((spans_Union.f l1 l2).bind fun t381 => ((spans_Union.f l0 t381).bind fun t384 => ((testamurref03_Same.f kj13 t378 t384).bind fun t387 => (if t387 = true then ((spans_Meet.f l0 l1).bind fun t388 => ((spans_Meet.f t388 l2).bind fun t391 => ((spans_Meet.f l1 l2).bind fun t394 => ((spans_Meet.f l0 t394).bind fun t397 => ((testamurref03_Same.f kj13 t391 t397).bind fun t400 => (if t400 = true then ((spans_Union.f l1 l2).bind fun t401 => ((spans_Meet.f l0 t401).bind fun t404 => ((spans_Meet.f l0 l1).bind fun t407 => ((spans_Meet.f l0 l2).bind fun t410 => ((spans_Union.f t407 t410).bind fun t413 => ((testamurref03_Same.f kj13 t404 t413).bind fun t416 => (if t416 = true then ((spans_Union.f l0 l0).bind fun t417 => ((testamurref03_Same.f kj13 t417 t358).bind fun t420 => (if t420 = true then ((spans_Meet.f l0 l0).bind fun t421 => ((testamurref03_Same.f kj13 t421 t358).bind fun t424 => (if t424 = true then ((spans_Normal.f t358).bind fun t425 => ((testamurref03_Same.f kj13 t425 t358).bind fun t428 => (if t428 = true then ((spans_Union.f l1 l2).bind fun t429 => ((spans_Minus.f l0 t429).bind fun t432 => ((spans_Minus.f l0 l1).bind fun t435 => ((spans_Minus.f t435 l2).bind fun t438 => ((testamurref03_Same.f kj13 t432 t438).bind fun t441 => (if t441 = true then ((spans_Minus.f l0 l0).bind fun t442 => (some ((t442.length : Int) == 0))) else (none))))))) else (none)))) else (none)))) else (none)))) else (none)))))))) else (none))))))) else (none))))))) else (none)))) = some r := H
                have A21 := Aside0.mk A210
                clear A210
                replace H := Option.bind_eq_some_iff.mp H
                obtain ⟨t371, A220, H⟩ := H
                replace H : ((testamurref03_Same.f kj13 t368 t371).bind fun t374 => (if t374 = true then ((spans_Union.f l0 l1).bind fun t375 => ((spans_Union.f t375 l2).bind fun t378 => ((spans_Union.f l1 l2).bind fun t381 => ((spans_Union.f l0 t381).bind fun t384 => ((testamurref03_Same.f kj13 t378 t384).bind fun t387 => (if t387 = true then ((spans_Meet.f l0 l1).bind fun t388 => ((spans_Meet.f t388 l2).bind fun t391 => ((spans_Meet.f l1 l2).bind fun t394 => ((spans_Meet.f l0 t394).bind fun t397 => ((testamurref03_Same.f kj13 t391 t397).bind fun t400 => (if t400 = true then ((spans_Union.f l1 l2).bind fun t401 => ((spans_Meet.f l0 t401).bind fun t404 => ((spans_Meet.f l0 l1).bind fun t407 => ((spans_Meet.f l0 l2).bind fun t410 => ((spans_Union.f t407 t410).bind fun t413 => ((testamurref03_Same.f kj13 t404 t413).bind fun t416 => (if t416 = true then ((spans_Union.f l0 l0).bind fun t417 => ((testamurref03_Same.f kj13 t417 t358).bind fun t420 => (if t420 = true then ((spans_Meet.f l0 l0).bind fun t421 => ((testamurref03_Same.f kj13 t421 t358).bind fun t424 => (if t424 = true then ((spans_Normal.f t358).bind fun t425 => ((testamurref03_Same.f kj13 t425 t358).bind fun t428 => (if t428 = true then ((spans_Union.f l1 l2).bind fun t429 => ((spans_Minus.f l0 t429).bind fun t432 => ((spans_Minus.f l0 l1).bind fun t435 => ((spans_Minus.f t435 l2).bind fun t438 => ((testamurref03_Same.f kj13 t432 t438).bind fun t441 => (if t441 = true then ((spans_Minus.f l0 l0).bind fun t442 => (some ((t442.length : Int) == 0))) else (none))))))) else (none)))) else (none)))) else (none)))) else (none)))))))) else (none))))))) else (none))))))) else (none))) = some r := H
                have A22 := Aside0.mk A220
                clear A220
                replace H := Option.bind_eq_some_iff.mp H
                obtain ⟨t374, A230, H⟩ := H
                replace H : (if t374 = true then ((spans_Union.f l0 l1).bind fun t375 => ((spans_Union.f t375 l2).bind fun t378 => ((spans_Union.f l1 l2).bind fun t381 => ((spans_Union.f l0 t381).bind fun t384 => ((testamurref03_Same.f kj13 t378 t384).bind fun t387 => (if t387 = true then ((spans_Meet.f l0 l1).bind fun t388 => ((spans_Meet.f t388 l2).bind fun t391 => ((spans_Meet.f l1 l2).bind fun t394 => ((spans_Meet.f l0 t394).bind fun t397 => ((testamurref03_Same.f kj13 t391 t397).bind fun t400 => (if t400 = true then ((spans_Union.f l1 l2).bind fun t401 => ((spans_Meet.f l0 t401).bind fun t404 => ((spans_Meet.f l0 l1).bind fun t407 => ((spans_Meet.f l0 l2).bind fun t410 => ((spans_Union.f t407 t410).bind fun t413 => ((testamurref03_Same.f kj13 t404 t413).bind fun t416 => (if t416 = true then ((spans_Union.f l0 l0).bind fun t417 => ((testamurref03_Same.f kj13 t417 t358).bind fun t420 => (if t420 = true then ((spans_Meet.f l0 l0).bind fun t421 => ((testamurref03_Same.f kj13 t421 t358).bind fun t424 => (if t424 = true then ((spans_Normal.f t358).bind fun t425 => ((testamurref03_Same.f kj13 t425 t358).bind fun t428 => (if t428 = true then ((spans_Union.f l1 l2).bind fun t429 => ((spans_Minus.f l0 t429).bind fun t432 => ((spans_Minus.f l0 l1).bind fun t435 => ((spans_Minus.f t435 l2).bind fun t438 => ((testamurref03_Same.f kj13 t432 t438).bind fun t441 => (if t441 = true then ((spans_Minus.f l0 l0).bind fun t442 => (some ((t442.length : Int) == 0))) else (none))))))) else (none)))) else (none)))) else (none)))) else (none)))))))) else (none))))))) else (none))))))) else (none)) = some r := H
                have A23 := Aside0.mk A230
                clear A230
                by_cases c24 : t374 = true
                · subst c24
                  have H1 : ((spans_Union.f l0 l1).bind fun t375 => ((spans_Union.f t375 l2).bind fun t378 => ((spans_Union.f l1 l2).bind fun t381 => ((spans_Union.f l0 t381).bind fun t384 => ((testamurref03_Same.f kj13 t378 t384).bind fun t387 => (if t387 = true then ((spans_Meet.f l0 l1).bind fun t388 => ((spans_Meet.f t388 l2).bind fun t391 => ((spans_Meet.f l1 l2).bind fun t394 => ((spans_Meet.f l0 t394).bind fun t397 => ((testamurref03_Same.f kj13 t391 t397).bind fun t400 => (if t400 = true then ((spans_Union.f l1 l2).bind fun t401 => ((spans_Meet.f l0 t401).bind fun t404 => ((spans_Meet.f l0 l1).bind fun t407 => ((spans_Meet.f l0 l2).bind fun t410 => ((spans_Union.f t407 t410).bind fun t413 => ((testamurref03_Same.f kj13 t404 t413).bind fun t416 => (if t416 = true then ((spans_Union.f l0 l0).bind fun t417 => ((testamurref03_Same.f kj13 t417 t358).bind fun t420 => (if t420 = true then ((spans_Meet.f l0 l0).bind fun t421 => ((testamurref03_Same.f kj13 t421 t358).bind fun t424 => (if t424 = true then ((spans_Normal.f t358).bind fun t425 => ((testamurref03_Same.f kj13 t425 t358).bind fun t428 => (if t428 = true then ((spans_Union.f l1 l2).bind fun t429 => ((spans_Minus.f l0 t429).bind fun t432 => ((spans_Minus.f l0 l1).bind fun t435 => ((spans_Minus.f t435 l2).bind fun t438 => ((testamurref03_Same.f kj13 t432 t438).bind fun t441 => (if t441 = true then ((spans_Minus.f l0 l0).bind fun t442 => (some ((t442.length : Int) == 0))) else (none))))))) else (none)))) else (none)))) else (none)))) else (none)))))))) else (none))))))) else (none))))))) = some r := by rw [if_pos rfl] at H; exact H
                  clear H
                  have H := H1
                  clear H1
                  replace H := Option.bind_eq_some_iff.mp H
                  obtain ⟨t375, A250, H⟩ := H
                  replace H : ((spans_Union.f t375 l2).bind fun t378 => ((spans_Union.f l1 l2).bind fun t381 => ((spans_Union.f l0 t381).bind fun t384 => ((testamurref03_Same.f kj13 t378 t384).bind fun t387 => (if t387 = true then ((spans_Meet.f l0 l1).bind fun t388 => ((spans_Meet.f t388 l2).bind fun t391 => ((spans_Meet.f l1 l2).bind fun t394 => ((spans_Meet.f l0 t394).bind fun t397 => ((testamurref03_Same.f kj13 t391 t397).bind fun t400 => (if t400 = true then ((spans_Union.f l1 l2).bind fun t401 => ((spans_Meet.f l0 t401).bind fun t404 => ((spans_Meet.f l0 l1).bind fun t407 => ((spans_Meet.f l0 l2).bind fun t410 => ((spans_Union.f t407 t410).bind fun t413 => ((testamurref03_Same.f kj13 t404 t413).bind fun t416 => (if t416 = true then ((spans_Union.f l0 l0).bind fun t417 => ((testamurref03_Same.f kj13 t417 t358).bind fun t420 => (if t420 = true then ((spans_Meet.f l0 l0).bind fun t421 => ((testamurref03_Same.f kj13 t421 t358).bind fun t424 => (if t424 = true then ((spans_Normal.f t358).bind fun t425 => ((testamurref03_Same.f kj13 t425 t358).bind fun t428 => (if t428 = true then ((spans_Union.f l1 l2).bind fun t429 => ((spans_Minus.f l0 t429).bind fun t432 => ((spans_Minus.f l0 l1).bind fun t435 => ((spans_Minus.f t435 l2).bind fun t438 => ((testamurref03_Same.f kj13 t432 t438).bind fun t441 => (if t441 = true then ((spans_Minus.f l0 l0).bind fun t442 => (some ((t442.length : Int) == 0))) else (none))))))) else (none)))) else (none)))) else (none)))) else (none)))))))) else (none))))))) else (none)))))) = some r := H
                  have A25 := Aside0.mk A250
                  clear A250
                  replace H := Option.bind_eq_some_iff.mp H
                  obtain ⟨t378, A260, H⟩ := H
                  replace H : ((spans_Union.f l1 l2).bind fun t381 => ((spans_Union.f l0 t381).bind fun t384 => ((testamurref03_Same.f kj13 t378 t384).bind fun t387 => (if t387 = true then ((spans_Meet.f l0 l1).bind fun t388 => ((spans_Meet.f t388 l2).bind fun t391 => ((spans_Meet.f l1 l2).bind fun t394 => ((spans_Meet.f l0 t394).bind fun t397 => ((testamurref03_Same.f kj13 t391 t397).bind fun t400 => (if t400 = true then ((spans_Union.f l1 l2).bind fun t401 => ((spans_Meet.f l0 t401).bind fun t404 => ((spans_Meet.f l0 l1).bind fun t407 => ((spans_Meet.f l0 l2).bind fun t410 => ((spans_Union.f t407 t410).bind fun t413 => ((testamurref03_Same.f kj13 t404 t413).bind fun t416 => (if t416 = true then ((spans_Union.f l0 l0).bind fun t417 => ((testamurref03_Same.f kj13 t417 t358).bind fun t420 => (if t420 = true then ((spans_Meet.f l0 l0).bind fun t421 => ((testamurref03_Same.f kj13 t421 t358).bind fun t424 => (if t424 = true then ((spans_Normal.f t358).bind fun t425 => ((testamurref03_Same.f kj13 t425 t358).bind fun t428 => (if t428 = true then ((spans_Union.f l1 l2).bind fun t429 => ((spans_Minus.f l0 t429).bind fun t432 => ((spans_Minus.f l0 l1).bind fun t435 => ((spans_Minus.f t435 l2).bind fun t438 => ((testamurref03_Same.f kj13 t432 t438).bind fun t441 => (if t441 = true then ((spans_Minus.f l0 l0).bind fun t442 => (some ((t442.length : Int) == 0))) else (none))))))) else (none)))) else (none)))) else (none)))) else (none)))))))) else (none))))))) else (none))))) = some r := H
                  have A26 := Aside0.mk A260
                  clear A260
                  replace H := Option.bind_eq_some_iff.mp H
                  obtain ⟨t381, A270, H⟩ := H
                  replace H : ((spans_Union.f l0 t381).bind fun t384 => ((testamurref03_Same.f kj13 t378 t384).bind fun t387 => (if t387 = true then ((spans_Meet.f l0 l1).bind fun t388 => ((spans_Meet.f t388 l2).bind fun t391 => ((spans_Meet.f l1 l2).bind fun t394 => ((spans_Meet.f l0 t394).bind fun t397 => ((testamurref03_Same.f kj13 t391 t397).bind fun t400 => (if t400 = true then ((spans_Union.f l1 l2).bind fun t401 => ((spans_Meet.f l0 t401).bind fun t404 => ((spans_Meet.f l0 l1).bind fun t407 => ((spans_Meet.f l0 l2).bind fun t410 => ((spans_Union.f t407 t410).bind fun t413 => ((testamurref03_Same.f kj13 t404 t413).bind fun t416 => (if t416 = true then ((spans_Union.f l0 l0).bind fun t417 => ((testamurref03_Same.f kj13 t417 t358).bind fun t420 => (if t420 = true then ((spans_Meet.f l0 l0).bind fun t421 => ((testamurref03_Same.f kj13 t421 t358).bind fun t424 => (if t424 = true then ((spans_Normal.f t358).bind fun t425 => ((testamurref03_Same.f kj13 t425 t358).bind fun t428 => (if t428 = true then ((spans_Union.f l1 l2).bind fun t429 => ((spans_Minus.f l0 t429).bind fun t432 => ((spans_Minus.f l0 l1).bind fun t435 => ((spans_Minus.f t435 l2).bind fun t438 => ((testamurref03_Same.f kj13 t432 t438).bind fun t441 => (if t441 = true then ((spans_Minus.f l0 l0).bind fun t442 => (some ((t442.length : Int) == 0))) else (none))))))) else (none)))) else (none)))) else (none)))) else (none)))))))) else (none))))))) else (none)))) = some r := H
                  have A27 := Aside0.mk A270
                  clear A270
                  replace H := Option.bind_eq_some_iff.mp H
                  obtain ⟨t384, A280, H⟩ := H
                  replace H : ((testamurref03_Same.f kj13 t378 t384).bind fun t387 => (if t387 = true then ((spans_Meet.f l0 l1).bind fun t388 => ((spans_Meet.f t388 l2).bind fun t391 => ((spans_Meet.f l1 l2).bind fun t394 => ((spans_Meet.f l0 t394).bind fun t397 => ((testamurref03_Same.f kj13 t391 t397).bind fun t400 => (if t400 = true then ((spans_Union.f l1 l2).bind fun t401 => ((spans_Meet.f l0 t401).bind fun t404 => ((spans_Meet.f l0 l1).bind fun t407 => ((spans_Meet.f l0 l2).bind fun t410 => ((spans_Union.f t407 t410).bind fun t413 => ((testamurref03_Same.f kj13 t404 t413).bind fun t416 => (if t416 = true then ((spans_Union.f l0 l0).bind fun t417 => ((testamurref03_Same.f kj13 t417 t358).bind fun t420 => (if t420 = true then ((spans_Meet.f l0 l0).bind fun t421 => ((testamurref03_Same.f kj13 t421 t358).bind fun t424 => (if t424 = true then ((spans_Normal.f t358).bind fun t425 => ((testamurref03_Same.f kj13 t425 t358).bind fun t428 => (if t428 = true then ((spans_Union.f l1 l2).bind fun t429 => ((spans_Minus.f l0 t429).bind fun t432 => ((spans_Minus.f l0 l1).bind fun t435 => ((spans_Minus.f t435 l2).bind fun t438 => ((testamurref03_Same.f kj13 t432 t438).bind fun t441 => (if t441 = true then ((spans_Minus.f l0 l0).bind fun t442 => (some ((t442.length : Int) == 0))) else (none))))))) else (none)))) else (none)))) else (none)))) else (none)))))))) else (none))))))) else (none))) = some r := H
                  have A28 := Aside0.mk A280
                  clear A280
                  replace H := Option.bind_eq_some_iff.mp H
                  obtain ⟨t387, A290, H⟩ := H
                  replace H : (if t387 = true then ((spans_Meet.f l0 l1).bind fun t388 => ((spans_Meet.f t388 l2).bind fun t391 => ((spans_Meet.f l1 l2).bind fun t394 => ((spans_Meet.f l0 t394).bind fun t397 => ((testamurref03_Same.f kj13 t391 t397).bind fun t400 => (if t400 = true then ((spans_Union.f l1 l2).bind fun t401 => ((spans_Meet.f l0 t401).bind fun t404 => ((spans_Meet.f l0 l1).bind fun t407 => ((spans_Meet.f l0 l2).bind fun t410 => ((spans_Union.f t407 t410).bind fun t413 => ((testamurref03_Same.f kj13 t404 t413).bind fun t416 => (if t416 = true then ((spans_Union.f l0 l0).bind fun t417 => ((testamurref03_Same.f kj13 t417 t358).bind fun t420 => (if t420 = true then ((spans_Meet.f l0 l0).bind fun t421 => ((testamurref03_Same.f kj13 t421 t358).bind fun t424 => (if t424 = true then ((spans_Normal.f t358).bind fun t425 => ((testamurref03_Same.f kj13 t425 t358).bind fun t428 => (if t428 = true then ((spans_Union.f l1 l2).bind fun t429 => ((spans_Minus.f l0 t429).bind fun t432 => ((spans_Minus.f l0 l1).bind fun t435 => ((spans_Minus.f t435 l2).bind fun t438 => ((testamurref03_Same.f kj13 t432 t438).bind fun t441 => (if t441 = true then ((spans_Minus.f l0 l0).bind fun t442 => (some ((t442.length : Int) == 0))) else (none))))))) else (none)))) else (none)))) else (none)))) else (none)))))))) else (none))))))) else (none)) = some r := H
                  have A29 := Aside0.mk A290
                  clear A290
                  by_cases c30 : t387 = true
                  · subst c30
                    have H1 : ((spans_Meet.f l0 l1).bind fun t388 => ((spans_Meet.f t388 l2).bind fun t391 => ((spans_Meet.f l1 l2).bind fun t394 => ((spans_Meet.f l0 t394).bind fun t397 => ((testamurref03_Same.f kj13 t391 t397).bind fun t400 => (if t400 = true then ((spans_Union.f l1 l2).bind fun t401 => ((spans_Meet.f l0 t401).bind fun t404 => ((spans_Meet.f l0 l1).bind fun t407 => ((spans_Meet.f l0 l2).bind fun t410 => ((spans_Union.f t407 t410).bind fun t413 => ((testamurref03_Same.f kj13 t404 t413).bind fun t416 => (if t416 = true then ((spans_Union.f l0 l0).bind fun t417 => ((testamurref03_Same.f kj13 t417 t358).bind fun t420 => (if t420 = true then ((spans_Meet.f l0 l0).bind fun t421 => ((testamurref03_Same.f kj13 t421 t358).bind fun t424 => (if t424 = true then ((spans_Normal.f t358).bind fun t425 => ((testamurref03_Same.f kj13 t425 t358).bind fun t428 => (if t428 = true then ((spans_Union.f l1 l2).bind fun t429 => ((spans_Minus.f l0 t429).bind fun t432 => ((spans_Minus.f l0 l1).bind fun t435 => ((spans_Minus.f t435 l2).bind fun t438 => ((testamurref03_Same.f kj13 t432 t438).bind fun t441 => (if t441 = true then ((spans_Minus.f l0 l0).bind fun t442 => (some ((t442.length : Int) == 0))) else (none))))))) else (none)))) else (none)))) else (none)))) else (none)))))))) else (none))))))) = some r := by rw [if_pos rfl] at H; exact H
                    clear H
                    have H := H1
                    clear H1
                    replace H := Option.bind_eq_some_iff.mp H
                    obtain ⟨t388, A310, H⟩ := H
                    replace H : ((spans_Meet.f t388 l2).bind fun t391 => ((spans_Meet.f l1 l2).bind fun t394 => ((spans_Meet.f l0 t394).bind fun t397 => ((testamurref03_Same.f kj13 t391 t397).bind fun t400 => (if t400 = true then ((spans_Union.f l1 l2).bind fun t401 => ((spans_Meet.f l0 t401).bind fun t404 => ((spans_Meet.f l0 l1).bind fun t407 => ((spans_Meet.f l0 l2).bind fun t410 => ((spans_Union.f t407 t410).bind fun t413 => ((testamurref03_Same.f kj13 t404 t413).bind fun t416 => (if t416 = true then ((spans_Union.f l0 l0).bind fun t417 => ((testamurref03_Same.f kj13 t417 t358).bind fun t420 => (if t420 = true then ((spans_Meet.f l0 l0).bind fun t421 => ((testamurref03_Same.f kj13 t421 t358).bind fun t424 => (if t424 = true then ((spans_Normal.f t358).bind fun t425 => ((testamurref03_Same.f kj13 t425 t358).bind fun t428 => (if t428 = true then ((spans_Union.f l1 l2).bind fun t429 => ((spans_Minus.f l0 t429).bind fun t432 => ((spans_Minus.f l0 l1).bind fun t435 => ((spans_Minus.f t435 l2).bind fun t438 => ((testamurref03_Same.f kj13 t432 t438).bind fun t441 => (if t441 = true then ((spans_Minus.f l0 l0).bind fun t442 => (some ((t442.length : Int) == 0))) else (none))))))) else (none)))) else (none)))) else (none)))) else (none)))))))) else (none)))))) = some r := H
                    have A31 := Aside0.mk A310
                    clear A310
                    replace H := Option.bind_eq_some_iff.mp H
                    obtain ⟨t391, A320, H⟩ := H
                    replace H : ((spans_Meet.f l1 l2).bind fun t394 => ((spans_Meet.f l0 t394).bind fun t397 => ((testamurref03_Same.f kj13 t391 t397).bind fun t400 => (if t400 = true then ((spans_Union.f l1 l2).bind fun t401 => ((spans_Meet.f l0 t401).bind fun t404 => ((spans_Meet.f l0 l1).bind fun t407 => ((spans_Meet.f l0 l2).bind fun t410 => ((spans_Union.f t407 t410).bind fun t413 => ((testamurref03_Same.f kj13 t404 t413).bind fun t416 => (if t416 = true then ((spans_Union.f l0 l0).bind fun t417 => ((testamurref03_Same.f kj13 t417 t358).bind fun t420 => (if t420 = true then ((spans_Meet.f l0 l0).bind fun t421 => ((testamurref03_Same.f kj13 t421 t358).bind fun t424 => (if t424 = true then ((spans_Normal.f t358).bind fun t425 => ((testamurref03_Same.f kj13 t425 t358).bind fun t428 => (if t428 = true then ((spans_Union.f l1 l2).bind fun t429 => ((spans_Minus.f l0 t429).bind fun t432 => ((spans_Minus.f l0 l1).bind fun t435 => ((spans_Minus.f t435 l2).bind fun t438 => ((testamurref03_Same.f kj13 t432 t438).bind fun t441 => (if t441 = true then ((spans_Minus.f l0 l0).bind fun t442 => (some ((t442.length : Int) == 0))) else (none))))))) else (none)))) else (none)))) else (none)))) else (none)))))))) else (none))))) = some r := H
                    have A32 := Aside0.mk A320
                    clear A320
                    replace H := Option.bind_eq_some_iff.mp H
                    obtain ⟨t394, A330, H⟩ := H
                    replace H : ((spans_Meet.f l0 t394).bind fun t397 => ((testamurref03_Same.f kj13 t391 t397).bind fun t400 => (if t400 = true then ((spans_Union.f l1 l2).bind fun t401 => ((spans_Meet.f l0 t401).bind fun t404 => ((spans_Meet.f l0 l1).bind fun t407 => ((spans_Meet.f l0 l2).bind fun t410 => ((spans_Union.f t407 t410).bind fun t413 => ((testamurref03_Same.f kj13 t404 t413).bind fun t416 => (if t416 = true then ((spans_Union.f l0 l0).bind fun t417 => ((testamurref03_Same.f kj13 t417 t358).bind fun t420 => (if t420 = true then ((spans_Meet.f l0 l0).bind fun t421 => ((testamurref03_Same.f kj13 t421 t358).bind fun t424 => (if t424 = true then ((spans_Normal.f t358).bind fun t425 => ((testamurref03_Same.f kj13 t425 t358).bind fun t428 => (if t428 = true then ((spans_Union.f l1 l2).bind fun t429 => ((spans_Minus.f l0 t429).bind fun t432 => ((spans_Minus.f l0 l1).bind fun t435 => ((spans_Minus.f t435 l2).bind fun t438 => ((testamurref03_Same.f kj13 t432 t438).bind fun t441 => (if t441 = true then ((spans_Minus.f l0 l0).bind fun t442 => (some ((t442.length : Int) == 0))) else (none))))))) else (none)))) else (none)))) else (none)))) else (none)))))))) else (none)))) = some r := H
                    have A33 := Aside0.mk A330
                    clear A330
                    replace H := Option.bind_eq_some_iff.mp H
                    obtain ⟨t397, A340, H⟩ := H
                    replace H : ((testamurref03_Same.f kj13 t391 t397).bind fun t400 => (if t400 = true then ((spans_Union.f l1 l2).bind fun t401 => ((spans_Meet.f l0 t401).bind fun t404 => ((spans_Meet.f l0 l1).bind fun t407 => ((spans_Meet.f l0 l2).bind fun t410 => ((spans_Union.f t407 t410).bind fun t413 => ((testamurref03_Same.f kj13 t404 t413).bind fun t416 => (if t416 = true then ((spans_Union.f l0 l0).bind fun t417 => ((testamurref03_Same.f kj13 t417 t358).bind fun t420 => (if t420 = true then ((spans_Meet.f l0 l0).bind fun t421 => ((testamurref03_Same.f kj13 t421 t358).bind fun t424 => (if t424 = true then ((spans_Normal.f t358).bind fun t425 => ((testamurref03_Same.f kj13 t425 t358).bind fun t428 => (if t428 = true then ((spans_Union.f l1 l2).bind fun t429 => ((spans_Minus.f l0 t429).bind fun t432 => ((spans_Minus.f l0 l1).bind fun t435 => ((spans_Minus.f t435 l2).bind fun t438 => ((testamurref03_Same.f kj13 t432 t438).bind fun t441 => (if t441 = true then ((spans_Minus.f l0 l0).bind fun t442 => (some ((t442.length : Int) == 0))) else (none))))))) else (none)))) else (none)))) else (none)))) else (none)))))))) else (none))) = some r := H
                    have A34 := Aside0.mk A340
                    clear A340
                    replace H := Option.bind_eq_some_iff.mp H
                    obtain ⟨t400, A350, H⟩ := H
                    replace H : (if t400 = true then ((spans_Union.f l1 l2).bind fun t401 => ((spans_Meet.f l0 t401).bind fun t404 => ((spans_Meet.f l0 l1).bind fun t407 => ((spans_Meet.f l0 l2).bind fun t410 => ((spans_Union.f t407 t410).bind fun t413 => ((testamurref03_Same.f kj13 t404 t413).bind fun t416 => (if t416 = true then ((spans_Union.f l0 l0).bind fun t417 => ((testamurref03_Same.f kj13 t417 t358).bind fun t420 => (if t420 = true then ((spans_Meet.f l0 l0).bind fun t421 => ((testamurref03_Same.f kj13 t421 t358).bind fun t424 => (if t424 = true then ((spans_Normal.f t358).bind fun t425 => ((testamurref03_Same.f kj13 t425 t358).bind fun t428 => (if t428 = true then ((spans_Union.f l1 l2).bind fun t429 => ((spans_Minus.f l0 t429).bind fun t432 => ((spans_Minus.f l0 l1).bind fun t435 => ((spans_Minus.f t435 l2).bind fun t438 => ((testamurref03_Same.f kj13 t432 t438).bind fun t441 => (if t441 = true then ((spans_Minus.f l0 l0).bind fun t442 => (some ((t442.length : Int) == 0))) else (none))))))) else (none)))) else (none)))) else (none)))) else (none)))))))) else (none)) = some r := H
                    have A35 := Aside0.mk A350
                    clear A350
                    by_cases c36 : t400 = true
                    · subst c36
                      have H1 : ((spans_Union.f l1 l2).bind fun t401 => ((spans_Meet.f l0 t401).bind fun t404 => ((spans_Meet.f l0 l1).bind fun t407 => ((spans_Meet.f l0 l2).bind fun t410 => ((spans_Union.f t407 t410).bind fun t413 => ((testamurref03_Same.f kj13 t404 t413).bind fun t416 => (if t416 = true then ((spans_Union.f l0 l0).bind fun t417 => ((testamurref03_Same.f kj13 t417 t358).bind fun t420 => (if t420 = true then ((spans_Meet.f l0 l0).bind fun t421 => ((testamurref03_Same.f kj13 t421 t358).bind fun t424 => (if t424 = true then ((spans_Normal.f t358).bind fun t425 => ((testamurref03_Same.f kj13 t425 t358).bind fun t428 => (if t428 = true then ((spans_Union.f l1 l2).bind fun t429 => ((spans_Minus.f l0 t429).bind fun t432 => ((spans_Minus.f l0 l1).bind fun t435 => ((spans_Minus.f t435 l2).bind fun t438 => ((testamurref03_Same.f kj13 t432 t438).bind fun t441 => (if t441 = true then ((spans_Minus.f l0 l0).bind fun t442 => (some ((t442.length : Int) == 0))) else (none))))))) else (none)))) else (none)))) else (none)))) else (none)))))))) = some r := by rw [if_pos rfl] at H; exact H
                      clear H
                      have H := H1
                      clear H1
                      replace H := Option.bind_eq_some_iff.mp H
                      obtain ⟨t401, A370, H⟩ := H
                      replace H : ((spans_Meet.f l0 t401).bind fun t404 => ((spans_Meet.f l0 l1).bind fun t407 => ((spans_Meet.f l0 l2).bind fun t410 => ((spans_Union.f t407 t410).bind fun t413 => ((testamurref03_Same.f kj13 t404 t413).bind fun t416 => (if t416 = true then ((spans_Union.f l0 l0).bind fun t417 => ((testamurref03_Same.f kj13 t417 t358).bind fun t420 => (if t420 = true then ((spans_Meet.f l0 l0).bind fun t421 => ((testamurref03_Same.f kj13 t421 t358).bind fun t424 => (if t424 = true then ((spans_Normal.f t358).bind fun t425 => ((testamurref03_Same.f kj13 t425 t358).bind fun t428 => (if t428 = true then ((spans_Union.f l1 l2).bind fun t429 => ((spans_Minus.f l0 t429).bind fun t432 => ((spans_Minus.f l0 l1).bind fun t435 => ((spans_Minus.f t435 l2).bind fun t438 => ((testamurref03_Same.f kj13 t432 t438).bind fun t441 => (if t441 = true then ((spans_Minus.f l0 l0).bind fun t442 => (some ((t442.length : Int) == 0))) else (none))))))) else (none)))) else (none)))) else (none)))) else (none))))))) = some r := H
                      have A37 := Aside0.mk A370
                      clear A370
                      replace H := Option.bind_eq_some_iff.mp H
                      obtain ⟨t404, A380, H⟩ := H
                      replace H : ((spans_Meet.f l0 l1).bind fun t407 => ((spans_Meet.f l0 l2).bind fun t410 => ((spans_Union.f t407 t410).bind fun t413 => ((testamurref03_Same.f kj13 t404 t413).bind fun t416 => (if t416 = true then ((spans_Union.f l0 l0).bind fun t417 => ((testamurref03_Same.f kj13 t417 t358).bind fun t420 => (if t420 = true then ((spans_Meet.f l0 l0).bind fun t421 => ((testamurref03_Same.f kj13 t421 t358).bind fun t424 => (if t424 = true then ((spans_Normal.f t358).bind fun t425 => ((testamurref03_Same.f kj13 t425 t358).bind fun t428 => (if t428 = true then ((spans_Union.f l1 l2).bind fun t429 => ((spans_Minus.f l0 t429).bind fun t432 => ((spans_Minus.f l0 l1).bind fun t435 => ((spans_Minus.f t435 l2).bind fun t438 => ((testamurref03_Same.f kj13 t432 t438).bind fun t441 => (if t441 = true then ((spans_Minus.f l0 l0).bind fun t442 => (some ((t442.length : Int) == 0))) else (none))))))) else (none)))) else (none)))) else (none)))) else (none)))))) = some r := H
                      have A38 := Aside0.mk A380
                      clear A380
                      replace H := Option.bind_eq_some_iff.mp H
                      obtain ⟨t407, A390, H⟩ := H
                      replace H : ((spans_Meet.f l0 l2).bind fun t410 => ((spans_Union.f t407 t410).bind fun t413 => ((testamurref03_Same.f kj13 t404 t413).bind fun t416 => (if t416 = true then ((spans_Union.f l0 l0).bind fun t417 => ((testamurref03_Same.f kj13 t417 t358).bind fun t420 => (if t420 = true then ((spans_Meet.f l0 l0).bind fun t421 => ((testamurref03_Same.f kj13 t421 t358).bind fun t424 => (if t424 = true then ((spans_Normal.f t358).bind fun t425 => ((testamurref03_Same.f kj13 t425 t358).bind fun t428 => (if t428 = true then ((spans_Union.f l1 l2).bind fun t429 => ((spans_Minus.f l0 t429).bind fun t432 => ((spans_Minus.f l0 l1).bind fun t435 => ((spans_Minus.f t435 l2).bind fun t438 => ((testamurref03_Same.f kj13 t432 t438).bind fun t441 => (if t441 = true then ((spans_Minus.f l0 l0).bind fun t442 => (some ((t442.length : Int) == 0))) else (none))))))) else (none)))) else (none)))) else (none)))) else (none))))) = some r := H
                      have A39 := Aside0.mk A390
                      clear A390
                      replace H := Option.bind_eq_some_iff.mp H
                      obtain ⟨t410, A400, H⟩ := H
                      replace H : ((spans_Union.f t407 t410).bind fun t413 => ((testamurref03_Same.f kj13 t404 t413).bind fun t416 => (if t416 = true then ((spans_Union.f l0 l0).bind fun t417 => ((testamurref03_Same.f kj13 t417 t358).bind fun t420 => (if t420 = true then ((spans_Meet.f l0 l0).bind fun t421 => ((testamurref03_Same.f kj13 t421 t358).bind fun t424 => (if t424 = true then ((spans_Normal.f t358).bind fun t425 => ((testamurref03_Same.f kj13 t425 t358).bind fun t428 => (if t428 = true then ((spans_Union.f l1 l2).bind fun t429 => ((spans_Minus.f l0 t429).bind fun t432 => ((spans_Minus.f l0 l1).bind fun t435 => ((spans_Minus.f t435 l2).bind fun t438 => ((testamurref03_Same.f kj13 t432 t438).bind fun t441 => (if t441 = true then ((spans_Minus.f l0 l0).bind fun t442 => (some ((t442.length : Int) == 0))) else (none))))))) else (none)))) else (none)))) else (none)))) else (none)))) = some r := H
                      have A40 := Aside0.mk A400
                      clear A400
                      replace H := Option.bind_eq_some_iff.mp H
                      obtain ⟨t413, A410, H⟩ := H
                      replace H : ((testamurref03_Same.f kj13 t404 t413).bind fun t416 => (if t416 = true then ((spans_Union.f l0 l0).bind fun t417 => ((testamurref03_Same.f kj13 t417 t358).bind fun t420 => (if t420 = true then ((spans_Meet.f l0 l0).bind fun t421 => ((testamurref03_Same.f kj13 t421 t358).bind fun t424 => (if t424 = true then ((spans_Normal.f t358).bind fun t425 => ((testamurref03_Same.f kj13 t425 t358).bind fun t428 => (if t428 = true then ((spans_Union.f l1 l2).bind fun t429 => ((spans_Minus.f l0 t429).bind fun t432 => ((spans_Minus.f l0 l1).bind fun t435 => ((spans_Minus.f t435 l2).bind fun t438 => ((testamurref03_Same.f kj13 t432 t438).bind fun t441 => (if t441 = true then ((spans_Minus.f l0 l0).bind fun t442 => (some ((t442.length : Int) == 0))) else (none))))))) else (none)))) else (none)))) else (none)))) else (none))) = some r := H
                      have A41 := Aside0.mk A410
                      clear A410
                      replace H := Option.bind_eq_some_iff.mp H
                      obtain ⟨t416, A420, H⟩ := H
                      replace H : (if t416 = true then ((spans_Union.f l0 l0).bind fun t417 => ((testamurref03_Same.f kj13 t417 t358).bind fun t420 => (if t420 = true then ((spans_Meet.f l0 l0).bind fun t421 => ((testamurref03_Same.f kj13 t421 t358).bind fun t424 => (if t424 = true then ((spans_Normal.f t358).bind fun t425 => ((testamurref03_Same.f kj13 t425 t358).bind fun t428 => (if t428 = true then ((spans_Union.f l1 l2).bind fun t429 => ((spans_Minus.f l0 t429).bind fun t432 => ((spans_Minus.f l0 l1).bind fun t435 => ((spans_Minus.f t435 l2).bind fun t438 => ((testamurref03_Same.f kj13 t432 t438).bind fun t441 => (if t441 = true then ((spans_Minus.f l0 l0).bind fun t442 => (some ((t442.length : Int) == 0))) else (none))))))) else (none)))) else (none)))) else (none)))) else (none)) = some r := H
                      have A42 := Aside0.mk A420
                      clear A420
                      by_cases c43 : t416 = true
                      · subst c43
                        have H1 : ((spans_Union.f l0 l0).bind fun t417 => ((testamurref03_Same.f kj13 t417 t358).bind fun t420 => (if t420 = true then ((spans_Meet.f l0 l0).bind fun t421 => ((testamurref03_Same.f kj13 t421 t358).bind fun t424 => (if t424 = true then ((spans_Normal.f t358).bind fun t425 => ((testamurref03_Same.f kj13 t425 t358).bind fun t428 => (if t428 = true then ((spans_Union.f l1 l2).bind fun t429 => ((spans_Minus.f l0 t429).bind fun t432 => ((spans_Minus.f l0 l1).bind fun t435 => ((spans_Minus.f t435 l2).bind fun t438 => ((testamurref03_Same.f kj13 t432 t438).bind fun t441 => (if t441 = true then ((spans_Minus.f l0 l0).bind fun t442 => (some ((t442.length : Int) == 0))) else (none))))))) else (none)))) else (none)))) else (none)))) = some r := by rw [if_pos rfl] at H; exact H
                        clear H
                        have H := H1
                        clear H1
                        replace H := Option.bind_eq_some_iff.mp H
                        obtain ⟨t417, A440, H⟩ := H
                        replace H : ((testamurref03_Same.f kj13 t417 t358).bind fun t420 => (if t420 = true then ((spans_Meet.f l0 l0).bind fun t421 => ((testamurref03_Same.f kj13 t421 t358).bind fun t424 => (if t424 = true then ((spans_Normal.f t358).bind fun t425 => ((testamurref03_Same.f kj13 t425 t358).bind fun t428 => (if t428 = true then ((spans_Union.f l1 l2).bind fun t429 => ((spans_Minus.f l0 t429).bind fun t432 => ((spans_Minus.f l0 l1).bind fun t435 => ((spans_Minus.f t435 l2).bind fun t438 => ((testamurref03_Same.f kj13 t432 t438).bind fun t441 => (if t441 = true then ((spans_Minus.f l0 l0).bind fun t442 => (some ((t442.length : Int) == 0))) else (none))))))) else (none)))) else (none)))) else (none))) = some r := H
                        have A44 := Aside0.mk A440
                        clear A440
                        replace H := Option.bind_eq_some_iff.mp H
                        obtain ⟨t420, A450, H⟩ := H
                        replace H : (if t420 = true then ((spans_Meet.f l0 l0).bind fun t421 => ((testamurref03_Same.f kj13 t421 t358).bind fun t424 => (if t424 = true then ((spans_Normal.f t358).bind fun t425 => ((testamurref03_Same.f kj13 t425 t358).bind fun t428 => (if t428 = true then ((spans_Union.f l1 l2).bind fun t429 => ((spans_Minus.f l0 t429).bind fun t432 => ((spans_Minus.f l0 l1).bind fun t435 => ((spans_Minus.f t435 l2).bind fun t438 => ((testamurref03_Same.f kj13 t432 t438).bind fun t441 => (if t441 = true then ((spans_Minus.f l0 l0).bind fun t442 => (some ((t442.length : Int) == 0))) else (none))))))) else (none)))) else (none)))) else (none)) = some r := H
                        have A45 := Aside0.mk A450
                        clear A450
                        by_cases c46 : t420 = true
                        · subst c46
                          have H1 : ((spans_Meet.f l0 l0).bind fun t421 => ((testamurref03_Same.f kj13 t421 t358).bind fun t424 => (if t424 = true then ((spans_Normal.f t358).bind fun t425 => ((testamurref03_Same.f kj13 t425 t358).bind fun t428 => (if t428 = true then ((spans_Union.f l1 l2).bind fun t429 => ((spans_Minus.f l0 t429).bind fun t432 => ((spans_Minus.f l0 l1).bind fun t435 => ((spans_Minus.f t435 l2).bind fun t438 => ((testamurref03_Same.f kj13 t432 t438).bind fun t441 => (if t441 = true then ((spans_Minus.f l0 l0).bind fun t442 => (some ((t442.length : Int) == 0))) else (none))))))) else (none)))) else (none)))) = some r := by rw [if_pos rfl] at H; exact H
                          clear H
                          have H := H1
                          clear H1
                          replace H := Option.bind_eq_some_iff.mp H
                          obtain ⟨t421, A470, H⟩ := H
                          replace H : ((testamurref03_Same.f kj13 t421 t358).bind fun t424 => (if t424 = true then ((spans_Normal.f t358).bind fun t425 => ((testamurref03_Same.f kj13 t425 t358).bind fun t428 => (if t428 = true then ((spans_Union.f l1 l2).bind fun t429 => ((spans_Minus.f l0 t429).bind fun t432 => ((spans_Minus.f l0 l1).bind fun t435 => ((spans_Minus.f t435 l2).bind fun t438 => ((testamurref03_Same.f kj13 t432 t438).bind fun t441 => (if t441 = true then ((spans_Minus.f l0 l0).bind fun t442 => (some ((t442.length : Int) == 0))) else (none))))))) else (none)))) else (none))) = some r := H
                          have A47 := Aside0.mk A470
                          clear A470
                          replace H := Option.bind_eq_some_iff.mp H
                          obtain ⟨t424, A480, H⟩ := H
                          replace H : (if t424 = true then ((spans_Normal.f t358).bind fun t425 => ((testamurref03_Same.f kj13 t425 t358).bind fun t428 => (if t428 = true then ((spans_Union.f l1 l2).bind fun t429 => ((spans_Minus.f l0 t429).bind fun t432 => ((spans_Minus.f l0 l1).bind fun t435 => ((spans_Minus.f t435 l2).bind fun t438 => ((testamurref03_Same.f kj13 t432 t438).bind fun t441 => (if t441 = true then ((spans_Minus.f l0 l0).bind fun t442 => (some ((t442.length : Int) == 0))) else (none))))))) else (none)))) else (none)) = some r := H
                          have A48 := Aside0.mk A480
                          clear A480
                          by_cases c49 : t424 = true
                          · subst c49
                            have H1 : ((spans_Normal.f t358).bind fun t425 => ((testamurref03_Same.f kj13 t425 t358).bind fun t428 => (if t428 = true then ((spans_Union.f l1 l2).bind fun t429 => ((spans_Minus.f l0 t429).bind fun t432 => ((spans_Minus.f l0 l1).bind fun t435 => ((spans_Minus.f t435 l2).bind fun t438 => ((testamurref03_Same.f kj13 t432 t438).bind fun t441 => (if t441 = true then ((spans_Minus.f l0 l0).bind fun t442 => (some ((t442.length : Int) == 0))) else (none))))))) else (none)))) = some r := by rw [if_pos rfl] at H; exact H
                            clear H
                            have H := H1
                            clear H1
                            replace H := Option.bind_eq_some_iff.mp H
                            obtain ⟨t425, A500, H⟩ := H
                            replace H : ((testamurref03_Same.f kj13 t425 t358).bind fun t428 => (if t428 = true then ((spans_Union.f l1 l2).bind fun t429 => ((spans_Minus.f l0 t429).bind fun t432 => ((spans_Minus.f l0 l1).bind fun t435 => ((spans_Minus.f t435 l2).bind fun t438 => ((testamurref03_Same.f kj13 t432 t438).bind fun t441 => (if t441 = true then ((spans_Minus.f l0 l0).bind fun t442 => (some ((t442.length : Int) == 0))) else (none))))))) else (none))) = some r := H
                            have A50 := Aside0.mk A500
                            clear A500
                            replace H := Option.bind_eq_some_iff.mp H
                            obtain ⟨t428, A510, H⟩ := H
                            replace H : (if t428 = true then ((spans_Union.f l1 l2).bind fun t429 => ((spans_Minus.f l0 t429).bind fun t432 => ((spans_Minus.f l0 l1).bind fun t435 => ((spans_Minus.f t435 l2).bind fun t438 => ((testamurref03_Same.f kj13 t432 t438).bind fun t441 => (if t441 = true then ((spans_Minus.f l0 l0).bind fun t442 => (some ((t442.length : Int) == 0))) else (none))))))) else (none)) = some r := H
                            have A51 := Aside0.mk A510
                            clear A510
                            by_cases c52 : t428 = true
                            · subst c52
                              have H1 : ((spans_Union.f l1 l2).bind fun t429 => ((spans_Minus.f l0 t429).bind fun t432 => ((spans_Minus.f l0 l1).bind fun t435 => ((spans_Minus.f t435 l2).bind fun t438 => ((testamurref03_Same.f kj13 t432 t438).bind fun t441 => (if t441 = true then ((spans_Minus.f l0 l0).bind fun t442 => (some ((t442.length : Int) == 0))) else (none))))))) = some r := by rw [if_pos rfl] at H; exact H
                              clear H
                              have H := H1
                              clear H1
                              replace H := Option.bind_eq_some_iff.mp H
                              obtain ⟨t429, A530, H⟩ := H
                              replace H : ((spans_Minus.f l0 t429).bind fun t432 => ((spans_Minus.f l0 l1).bind fun t435 => ((spans_Minus.f t435 l2).bind fun t438 => ((testamurref03_Same.f kj13 t432 t438).bind fun t441 => (if t441 = true then ((spans_Minus.f l0 l0).bind fun t442 => (some ((t442.length : Int) == 0))) else (none)))))) = some r := H
                              have A53 := Aside0.mk A530
                              clear A530
                              replace H := Option.bind_eq_some_iff.mp H
                              obtain ⟨t432, A540, H⟩ := H
                              replace H : ((spans_Minus.f l0 l1).bind fun t435 => ((spans_Minus.f t435 l2).bind fun t438 => ((testamurref03_Same.f kj13 t432 t438).bind fun t441 => (if t441 = true then ((spans_Minus.f l0 l0).bind fun t442 => (some ((t442.length : Int) == 0))) else (none))))) = some r := H
                              have A54 := Aside0.mk A540
                              clear A540
                              replace H := Option.bind_eq_some_iff.mp H
                              obtain ⟨t435, A550, H⟩ := H
                              replace H : ((spans_Minus.f t435 l2).bind fun t438 => ((testamurref03_Same.f kj13 t432 t438).bind fun t441 => (if t441 = true then ((spans_Minus.f l0 l0).bind fun t442 => (some ((t442.length : Int) == 0))) else (none)))) = some r := H
                              have A55 := Aside0.mk A550
                              clear A550
                              replace H := Option.bind_eq_some_iff.mp H
                              obtain ⟨t438, A560, H⟩ := H
                              replace H : ((testamurref03_Same.f kj13 t432 t438).bind fun t441 => (if t441 = true then ((spans_Minus.f l0 l0).bind fun t442 => (some ((t442.length : Int) == 0))) else (none))) = some r := H
                              have A56 := Aside0.mk A560
                              clear A560
                              replace H := Option.bind_eq_some_iff.mp H
                              obtain ⟨t441, A570, H⟩ := H
                              replace H : (if t441 = true then ((spans_Minus.f l0 l0).bind fun t442 => (some ((t442.length : Int) == 0))) else (none)) = some r := H
                              have A57 := Aside0.mk A570
                              clear A570
                              by_cases c58 : t441 = true
                              · subst c58
                                have H1 : ((spans_Minus.f l0 l0).bind fun t442 => (some ((t442.length : Int) == 0))) = some r := by rw [if_pos rfl] at H; exact H
                                clear H
                                have H := H1
                                clear H1
                                replace H := Option.bind_eq_some_iff.mp H
                                obtain ⟨t442, A590, H⟩ := H
                                replace H : (some ((t442.length : Int) == 0)) = some r := H
                                have A59 := Aside0.mk A590
                                clear A590
                                obtain rfl := Option.some.inj H
                                go_wp2_with ((with_reducible refine gate_callee (f := 15) rfl ?_); refine Aside0.out (p := _) ?_)
                                refine ⟨?_⟩
                                refine goesL_ (some 24) rfl rfl Try.func15 (by kernel_rfl) rfl #[.slice A0 l0.length c0] rfl (by (try simp only [List.map_toArray, List.map_cons, List.map_nil]); first | done | rfl | (simp only [List.length_drop, List.length_take]; rfl)) ?_
                                (with_reducible refine (spans_Normal.calls _ _ l0 t358 _ ?side1 ?side2 A16.out).mono ?_)
                                (case side1 => repeat (first | exact (Kd.C_below HR0.out HB.out) | (with_reducible refine Kd.C_alloc ?_ _) | (with_reducible refine Kd.C_drewN ?_ _) | (with_reducible refine Kd.C_drew ?_)))
                                (case side2 => exact HC0.out)
                                rintro e w60 ⟨v359, rfl, ho0, hb⟩
                                refine ⟨_, rfl, ?_⟩
                                have n0_ := Aside0.mk (Kd.R_lower ho0 (below_size (by repeat (first | (with_reducible first | exact HB.out | apply below_alloc | apply pw_below_drewN | apply below_drew1) | exact HB.out))))
                                have n1_ := Aside0.mk (below_step (by repeat (first | (with_reducible first | exact HB.out | apply below_alloc | apply pw_below_drewN | apply below_drew1) | exact HB.out)) hb)
                                clear HB
                                have HO360 := n0_
                                have HB := n1_
                                clear n0_ n1_
                                (try clear hb)
                                (try clear hb2)
                                (try clear hk)
                                (try clear hi)
                                (try clear ho0)
                                go_wp2_with ((with_reducible refine gate_callee (f := 17) rfl ?_); refine Aside0.out (p := _) ?_)
                                refine ⟨?_⟩
                                refine goesL_ (some 27) rfl rfl Try.func17 (by kernel_rfl) rfl #[.slice A0 l0.length c0, .slice A1 l1.length c1] rfl (by (try simp only [List.map_toArray, List.map_cons, List.map_nil]); first | done | rfl | (simp only [List.length_drop, List.length_take]; rfl)) ?_
                                (with_reducible refine (spans_Union.calls _ _ l0 _ _ l1 t361 _ ?side1 ?side2 ?side3 ?side4 A17.out).mono ?_)
                                (case side1 => repeat (first | exact (Kd.C_below HR0.out HB.out) | (with_reducible refine Kd.C_alloc ?_ _) | (with_reducible refine Kd.C_drewN ?_ _) | (with_reducible refine Kd.C_drew ?_)))
                                (case side2 => exact HC0.out)
                                (case side3 => repeat (first | exact (Kd.C_below HR1.out HB.out) | (with_reducible refine Kd.C_alloc ?_ _) | (with_reducible refine Kd.C_drewN ?_ _) | (with_reducible refine Kd.C_drew ?_)))
                                (case side4 => exact HC1.out)
                                rintro e w61 ⟨v362, rfl, ho0, hb⟩
                                refine ⟨_, rfl, ?_⟩
                                have n0_ := Aside0.mk (Kd.R_elder' (by (with_reducible repeat (first | apply Kd.R_alloc | apply Kd.R_drewN | apply Kd.R_drew)); exact HO360.out) (Kd.R_base ho0) hb)
                                have n1_ := Aside0.mk (Kd.R_lower ho0 (below_size (by repeat (first | (with_reducible first | exact HB.out | apply below_alloc | apply pw_below_drewN | apply below_drew1) | exact HB.out))))
                                have n2_ := Aside0.mk (below_step (by repeat (first | (with_reducible first | exact HB.out | apply below_alloc | apply pw_below_drewN | apply below_drew1) | exact HB.out)) hb)
                                clear HO360
                                clear HB
                                have HO360 := n0_
                                have HO363 := n1_
                                have HB := n2_
                                clear n0_ n1_ n2_
                                (try clear hb)
                                (try clear hb2)
                                (try clear hk)
                                (try clear hi)
                                (try clear ho0)
                                go_wp2_with ((with_reducible refine gate_callee (f := 17) rfl ?_); refine Aside0.out (p := _) ?_)
                                refine ⟨?_⟩
                                refine goesL_ (some 30) rfl rfl Try.func17 (by kernel_rfl) rfl #[.slice A1 l1.length c1, .slice A0 l0.length c0] rfl (by (try simp only [List.map_toArray, List.map_cons, List.map_nil]); first | done | rfl | (simp only [List.length_drop, List.length_take]; rfl)) ?_
                                (with_reducible refine (spans_Union.calls _ _ l1 _ _ l0 t364 _ ?side1 ?side2 ?side3 ?side4 A18.out).mono ?_)
                                (case side1 => repeat (first | exact (Kd.C_below HR1.out HB.out) | (with_reducible refine Kd.C_alloc ?_ _) | (with_reducible refine Kd.C_drewN ?_ _) | (with_reducible refine Kd.C_drew ?_)))
                                (case side2 => exact HC1.out)
                                (case side3 => repeat (first | exact (Kd.C_below HR0.out HB.out) | (with_reducible refine Kd.C_alloc ?_ _) | (with_reducible refine Kd.C_drewN ?_ _) | (with_reducible refine Kd.C_drew ?_)))
                                (case side4 => exact HC0.out)
                                rintro e w62 ⟨v365, rfl, ho0, hb⟩
                                refine ⟨_, rfl, ?_⟩
                                have n0_ := Aside0.mk (Kd.R_elder' (by (with_reducible repeat (first | apply Kd.R_alloc | apply Kd.R_drewN | apply Kd.R_drew)); exact HO360.out) (Kd.R_base ho0) hb)
                                have n1_ := Aside0.mk (Kd.R_elder' (by (with_reducible repeat (first | apply Kd.R_alloc | apply Kd.R_drewN | apply Kd.R_drew)); exact HO363.out) (Kd.R_base ho0) hb)
                                have n2_ := Aside0.mk (Kd.R_lower ho0 (below_size (by repeat (first | (with_reducible first | exact HB.out | apply below_alloc | apply pw_below_drewN | apply below_drew1) | exact HB.out))))
                                have n3_ := Aside0.mk (below_step (by repeat (first | (with_reducible first | exact HB.out | apply below_alloc | apply pw_below_drewN | apply below_drew1) | exact HB.out)) hb)
                                clear HO360
                                clear HO363
                                clear HB
                                have HO360 := n0_
                                have HO363 := n1_
                                have HO366 := n2_
                                have HB := n3_
                                clear n0_ n1_ n2_ n3_
                                (try clear hb)
                                (try clear hb2)
                                (try clear hk)
                                (try clear hi)
                                (try clear ho0)
                                obtain ⟨Ao63, co63, eo63⟩ := Kd.R_slice HO363.out
                                subst eo63
                                obtain ⟨Ao64, co64, eo64⟩ := Kd.R_slice HO366.out
                                subst eo64
                                go_wp2_with ((with_reducible refine gate_callee (f := 14) rfl ?_); refine Aside0.out (p := _) ?_)
                                refine ⟨?_⟩
                                refine goesL_ (some 31) rfl rfl Try.func14 (by kernel_rfl) rfl #[.slice Ao63 t361.length co63, .slice Ao64 t364.length co64] rfl (by (try simp only [List.map_toArray, List.map_cons, List.map_nil]); first | done | rfl | (simp only [List.length_drop, List.length_take]; rfl)) ?_
                                (with_reducible refine (testamurref03_Same.calls kj13 _ _ t361 _ _ t364 true _ ?side1 ?side2 ?side3 ?side4 A19.out).mono ?_)
                                (case side1 => repeat (first | exact (Kd.R_reads' HO363.out).2.2 | (with_reducible refine Kd.C_alloc ?_ _) | (with_reducible refine Kd.C_drewN ?_ _) | (with_reducible refine Kd.C_drew ?_)))
                                (case side2 => exact (Kd.R_reads' HO363.out).2.1)
                                (case side3 => repeat (first | exact (Kd.R_reads' HO366.out).2.2 | (with_reducible refine Kd.C_alloc ?_ _) | (with_reducible refine Kd.C_drewN ?_ _) | (with_reducible refine Kd.C_drew ?_)))
                                (case side4 => exact (Kd.R_reads' HO366.out).2.1)
                                rintro e w' ⟨rfl, ⟨nd, rfl⟩⟩
                                refine ⟨_, rfl, ?_⟩
                                go_wp2_with (go_at_call 19; (with_reducible refine (spans_Meet.calls _ _ l0 _ _ l1 t368 _ ?side1 ?side2 ?side3 ?side4 A21.out).mono ?_); (case side1 => repeat (first | exact (Kd.C_below HR0.out (by repeat (first | (with_reducible first | exact HB.out | apply below_alloc | apply pw_below_drewN | apply below_drew1) | exact HB.out))) | (with_reducible refine Kd.C_alloc ?_ _) | (with_reducible refine Kd.C_drewN ?_ _) | (with_reducible refine Kd.C_drew ?_))); (case side2 => exact HC0.out); (case side3 => repeat (first | exact (Kd.C_below HR1.out (by repeat (first | (with_reducible first | exact HB.out | apply below_alloc | apply pw_below_drewN | apply below_drew1) | exact HB.out))) | (with_reducible refine Kd.C_alloc ?_ _) | (with_reducible refine Kd.C_drewN ?_ _) | (with_reducible refine Kd.C_drew ?_))); (case side4 => exact HC1.out); refine Aside0.out (p := _) ?_)
                                refine ⟨?_⟩
                                rintro e w65 ⟨v369, rfl, ho0, hb⟩
                                have n0_ := Aside0.mk (Kd.R_elder' (by (with_reducible repeat (first | apply Kd.R_alloc | apply Kd.R_drewN | apply Kd.R_drew)); exact HO360.out) (Kd.R_base ho0) hb)
                                have n3_ := Aside0.mk (Kd.R_lower ho0 (below_size (by repeat (first | (with_reducible first | exact HB.out | apply below_alloc | apply pw_below_drewN | apply below_drew1) | exact HB.out))))
                                have n4_ := Aside0.mk (below_step (by repeat (first | (with_reducible first | exact HB.out | apply below_alloc | apply pw_below_drewN | apply below_drew1) | exact HB.out)) hb)
                                clear HO360
                                clear HO363
                                clear HO366
                                clear HB
                                have HO360 := n0_
                                have HO370 := n3_
                                have HB := n4_
                                clear n0_ n3_ n4_
                                (try clear hb)
                                (try clear hb2)
                                (try clear hk)
                                (try clear hi)
                                (try clear ho0)
                                go_wp2_with (go_at_call 19; (with_reducible refine (spans_Meet.calls _ _ l1 _ _ l0 t371 _ ?side1 ?side2 ?side3 ?side4 A22.out).mono ?_); (case side1 => repeat (first | exact (Kd.C_below HR1.out HB.out) | (with_reducible refine Kd.C_alloc ?_ _) | (with_reducible refine Kd.C_drewN ?_ _) | (with_reducible refine Kd.C_drew ?_))); (case side2 => exact HC1.out); (case side3 => repeat (first | exact (Kd.C_below HR0.out HB.out) | (with_reducible refine Kd.C_alloc ?_ _) | (with_reducible refine Kd.C_drewN ?_ _) | (with_reducible refine Kd.C_drew ?_))); (case side4 => exact HC0.out); refine Aside0.out (p := _) ?_)
                                refine ⟨?_⟩
                                rintro e w66 ⟨v372, rfl, ho0, hb⟩
                                have n0_ := Aside0.mk (Kd.R_elder' (by (with_reducible repeat (first | apply Kd.R_alloc | apply Kd.R_drewN | apply Kd.R_drew)); exact HO360.out) (Kd.R_base ho0) hb)
                                have n3_ := Aside0.mk (Kd.R_elder' (by (with_reducible repeat (first | apply Kd.R_alloc | apply Kd.R_drewN | apply Kd.R_drew)); exact HO370.out) (Kd.R_base ho0) hb)
                                have n4_ := Aside0.mk (Kd.R_lower ho0 (below_size (by repeat (first | (with_reducible first | exact HB.out | apply below_alloc | apply pw_below_drewN | apply below_drew1) | exact HB.out))))
                                have n5_ := Aside0.mk (below_step (by repeat (first | (with_reducible first | exact HB.out | apply below_alloc | apply pw_below_drewN | apply below_drew1) | exact HB.out)) hb)
                                clear HO360
                                clear HO370
                                clear HB
                                have HO360 := n0_
                                have HO370 := n3_
                                have HO373 := n4_
                                have HB := n5_
                                clear n0_ n3_ n4_ n5_
                                (try clear hb)
                                (try clear hb2)
                                (try clear hk)
                                (try clear hi)
                                (try clear ho0)
                                obtain ⟨Ao67, co67, eo67⟩ := Kd.R_slice HO370.out
                                subst eo67
                                obtain ⟨Ao68, co68, eo68⟩ := Kd.R_slice HO373.out
                                subst eo68
                                go_wp2_with (go_at_call 14; (with_reducible refine (testamurref03_Same.calls kj13 _ _ t368 _ _ t371 true _ ?side1 ?side2 ?side3 ?side4 A23.out).mono ?_); (case side1 => repeat (first | exact (Kd.R_reads' HO370.out).2.2 | (with_reducible refine Kd.C_alloc ?_ _) | (with_reducible refine Kd.C_drewN ?_ _) | (with_reducible refine Kd.C_drew ?_))); (case side2 => exact (Kd.R_reads' HO370.out).2.1); (case side3 => repeat (first | exact (Kd.R_reads' HO373.out).2.2 | (with_reducible refine Kd.C_alloc ?_ _) | (with_reducible refine Kd.C_drewN ?_ _) | (with_reducible refine Kd.C_drew ?_))); (case side4 => exact (Kd.R_reads' HO373.out).2.1); refine Aside0.out (p := _) ?_)
                                refine ⟨?_⟩
                                rintro e w' ⟨rfl, ⟨nd, rfl⟩⟩
                                go_wp2_with (go_at_call 17; (with_reducible refine (spans_Union.calls _ _ l0 _ _ l1 t375 _ ?side1 ?side2 ?side3 ?side4 A25.out).mono ?_); (case side1 => repeat (first | exact (Kd.C_below HR0.out (by repeat (first | (with_reducible first | exact HB.out | apply below_alloc | apply pw_below_drewN | apply below_drew1) | exact HB.out))) | (with_reducible refine Kd.C_alloc ?_ _) | (with_reducible refine Kd.C_drewN ?_ _) | (with_reducible refine Kd.C_drew ?_))); (case side2 => exact HC0.out); (case side3 => repeat (first | exact (Kd.C_below HR1.out (by repeat (first | (with_reducible first | exact HB.out | apply below_alloc | apply pw_below_drewN | apply below_drew1) | exact HB.out))) | (with_reducible refine Kd.C_alloc ?_ _) | (with_reducible refine Kd.C_drewN ?_ _) | (with_reducible refine Kd.C_drew ?_))); (case side4 => exact HC1.out); refine Aside0.out (p := _) ?_)
                                refine ⟨?_⟩
                                rintro e w69 ⟨v376, rfl, ho0, hb⟩
                                have n0_ := Aside0.mk (Kd.R_elder' (by (with_reducible repeat (first | apply Kd.R_alloc | apply Kd.R_drewN | apply Kd.R_drew)); exact HO360.out) (Kd.R_base ho0) hb)
                                have n5_ := Aside0.mk (Kd.R_lower ho0 (below_size (by repeat (first | (with_reducible first | exact HB.out | apply below_alloc | apply pw_below_drewN | apply below_drew1) | exact HB.out))))
                                have n6_ := Aside0.mk (below_step (by repeat (first | (with_reducible first | exact HB.out | apply below_alloc | apply pw_below_drewN | apply below_drew1) | exact HB.out)) hb)
                                clear HO360
                                clear HO370
                                clear HO373
                                clear HB
                                have HO360 := n0_
                                have HO377 := n5_
                                have HB := n6_
                                clear n0_ n5_ n6_
                                (try clear hb)
                                (try clear hb2)
                                (try clear hk)
                                (try clear hi)
                                (try clear ho0)
                                obtain ⟨Ao70, co70, eo70⟩ := Kd.R_slice HO377.out
                                subst eo70
                                go_wp2_with (go_at_call 17; (with_reducible refine (spans_Union.calls _ _ t375 _ _ l2 t378 _ ?side1 ?side2 ?side3 ?side4 A26.out).mono ?_); (case side1 => repeat (first | exact (Kd.R_reads' HO377.out).2.2 | (with_reducible refine Kd.C_alloc ?_ _) | (with_reducible refine Kd.C_drewN ?_ _) | (with_reducible refine Kd.C_drew ?_))); (case side2 => exact (Kd.R_reads' HO377.out).2.1); (case side3 => repeat (first | exact (Kd.C_below HR2.out HB.out) | (with_reducible refine Kd.C_alloc ?_ _) | (with_reducible refine Kd.C_drewN ?_ _) | (with_reducible refine Kd.C_drew ?_))); (case side4 => exact HC2.out); refine Aside0.out (p := _) ?_)
                                refine ⟨?_⟩
                                rintro e w71 ⟨v379, rfl, ho0, hb⟩
                                have n0_ := Aside0.mk (Kd.R_elder' (by (with_reducible repeat (first | apply Kd.R_alloc | apply Kd.R_drewN | apply Kd.R_drew)); exact HO360.out) (Kd.R_base ho0) hb)
                                have n6_ := Aside0.mk (Kd.R_lower ho0 (below_size (by repeat (first | (with_reducible first | exact HB.out | apply below_alloc | apply pw_below_drewN | apply below_drew1) | exact HB.out))))
                                have n7_ := Aside0.mk (below_step (by repeat (first | (with_reducible first | exact HB.out | apply below_alloc | apply pw_below_drewN | apply below_drew1) | exact HB.out)) hb)
                                clear HO360
                                clear HO377
                                clear HB
                                have HO360 := n0_
                                have HO380 := n6_
                                have HB := n7_
                                clear n0_ n6_ n7_
                                (try clear hb)
                                (try clear hb2)
                                (try clear hk)
                                (try clear hi)
                                (try clear ho0)
                                go_wp2_with (go_at_call 17; (with_reducible refine (spans_Union.calls _ _ l1 _ _ l2 t381 _ ?side1 ?side2 ?side3 ?side4 A27.out).mono ?_); (case side1 => repeat (first | exact (Kd.C_below HR1.out HB.out) | (with_reducible refine Kd.C_alloc ?_ _) | (with_reducible refine Kd.C_drewN ?_ _) | (with_reducible refine Kd.C_drew ?_))); (case side2 => exact HC1.out); (case side3 => repeat (first | exact (Kd.C_below HR2.out HB.out) | (with_reducible refine Kd.C_alloc ?_ _) | (with_reducible refine Kd.C_drewN ?_ _) | (with_reducible refine Kd.C_drew ?_))); (case side4 => exact HC2.out); refine Aside0.out (p := _) ?_)
                                refine ⟨?_⟩
                                rintro e w72 ⟨v382, rfl, ho0, hb⟩
                                have n0_ := Aside0.mk (Kd.R_elder' (by (with_reducible repeat (first | apply Kd.R_alloc | apply Kd.R_drewN | apply Kd.R_drew)); exact HO360.out) (Kd.R_base ho0) hb)
                                have n6_ := Aside0.mk (Kd.R_elder' (by (with_reducible repeat (first | apply Kd.R_alloc | apply Kd.R_drewN | apply Kd.R_drew)); exact HO380.out) (Kd.R_base ho0) hb)
                                have n7_ := Aside0.mk (Kd.R_lower ho0 (below_size (by repeat (first | (with_reducible first | exact HB.out | apply below_alloc | apply pw_below_drewN | apply below_drew1) | exact HB.out))))
                                have n8_ := Aside0.mk (below_step (by repeat (first | (with_reducible first | exact HB.out | apply below_alloc | apply pw_below_drewN | apply below_drew1) | exact HB.out)) hb)
                                clear HO360
                                clear HO380
                                clear HB
                                have HO360 := n0_
                                have HO380 := n6_
                                have HO383 := n7_
                                have HB := n8_
                                clear n0_ n6_ n7_ n8_
                                (try clear hb)
                                (try clear hb2)
                                (try clear hk)
                                (try clear hi)
                                (try clear ho0)
                                obtain ⟨Ao73, co73, eo73⟩ := Kd.R_slice HO383.out
                                subst eo73
                                go_wp2_with (go_at_call 17; (with_reducible refine (spans_Union.calls _ _ l0 _ _ t381 t384 _ ?side1 ?side2 ?side3 ?side4 A28.out).mono ?_); (case side1 => repeat (first | exact (Kd.C_below HR0.out HB.out) | (with_reducible refine Kd.C_alloc ?_ _) | (with_reducible refine Kd.C_drewN ?_ _) | (with_reducible refine Kd.C_drew ?_))); (case side2 => exact HC0.out); (case side3 => repeat (first | exact (Kd.R_reads' HO383.out).2.2 | (with_reducible refine Kd.C_alloc ?_ _) | (with_reducible refine Kd.C_drewN ?_ _) | (with_reducible refine Kd.C_drew ?_))); (case side4 => exact (Kd.R_reads' HO383.out).2.1); refine Aside0.out (p := _) ?_)
                                refine ⟨?_⟩
                                rintro e w74 ⟨v385, rfl, ho0, hb⟩
                                have n0_ := Aside0.mk (Kd.R_elder' (by (with_reducible repeat (first | apply Kd.R_alloc | apply Kd.R_drewN | apply Kd.R_drew)); exact HO360.out) (Kd.R_base ho0) hb)
                                have n6_ := Aside0.mk (Kd.R_elder' (by (with_reducible repeat (first | apply Kd.R_alloc | apply Kd.R_drewN | apply Kd.R_drew)); exact HO380.out) (Kd.R_base ho0) hb)
                                have n8_ := Aside0.mk (Kd.R_lower ho0 (below_size (by repeat (first | (with_reducible first | exact HB.out | apply below_alloc | apply pw_below_drewN | apply below_drew1) | exact HB.out))))
                                have n9_ := Aside0.mk (below_step (by repeat (first | (with_reducible first | exact HB.out | apply below_alloc | apply pw_below_drewN | apply below_drew1) | exact HB.out)) hb)
                                clear HO360
                                clear HO380
                                clear HO383
                                clear HB
                                have HO360 := n0_
                                have HO380 := n6_
                                have HO386 := n8_
                                have HB := n9_
                                clear n0_ n6_ n8_ n9_
                                (try clear hb)
                                (try clear hb2)
                                (try clear hk)
                                (try clear hi)
                                (try clear ho0)
                                obtain ⟨Ao75, co75, eo75⟩ := Kd.R_slice HO380.out
                                subst eo75
                                obtain ⟨Ao76, co76, eo76⟩ := Kd.R_slice HO386.out
                                subst eo76
                                go_wp2_with (go_at_call 14; (with_reducible refine (testamurref03_Same.calls kj13 _ _ t378 _ _ t384 true _ ?side1 ?side2 ?side3 ?side4 A29.out).mono ?_); (case side1 => repeat (first | exact (Kd.R_reads' HO380.out).2.2 | (with_reducible refine Kd.C_alloc ?_ _) | (with_reducible refine Kd.C_drewN ?_ _) | (with_reducible refine Kd.C_drew ?_))); (case side2 => exact (Kd.R_reads' HO380.out).2.1); (case side3 => repeat (first | exact (Kd.R_reads' HO386.out).2.2 | (with_reducible refine Kd.C_alloc ?_ _) | (with_reducible refine Kd.C_drewN ?_ _) | (with_reducible refine Kd.C_drew ?_))); (case side4 => exact (Kd.R_reads' HO386.out).2.1); refine Aside0.out (p := _) ?_)
                                refine ⟨?_⟩
                                rintro e w' ⟨rfl, ⟨nd, rfl⟩⟩
                                go_wp2_with (go_at_call 19; (with_reducible refine (spans_Meet.calls _ _ l0 _ _ l1 t388 _ ?side1 ?side2 ?side3 ?side4 A31.out).mono ?_); (case side1 => repeat (first | exact (Kd.C_below HR0.out (by repeat (first | (with_reducible first | exact HB.out | apply below_alloc | apply pw_below_drewN | apply below_drew1) | exact HB.out))) | (with_reducible refine Kd.C_alloc ?_ _) | (with_reducible refine Kd.C_drewN ?_ _) | (with_reducible refine Kd.C_drew ?_))); (case side2 => exact HC0.out); (case side3 => repeat (first | exact (Kd.C_below HR1.out (by repeat (first | (with_reducible first | exact HB.out | apply below_alloc | apply pw_below_drewN | apply below_drew1) | exact HB.out))) | (with_reducible refine Kd.C_alloc ?_ _) | (with_reducible refine Kd.C_drewN ?_ _) | (with_reducible refine Kd.C_drew ?_))); (case side4 => exact HC1.out); refine Aside0.out (p := _) ?_)
                                refine ⟨?_⟩
                                rintro e w77 ⟨v389, rfl, ho0, hb⟩
                                have n0_ := Aside0.mk (Kd.R_elder' (by (with_reducible repeat (first | apply Kd.R_alloc | apply Kd.R_drewN | apply Kd.R_drew)); exact HO360.out) (Kd.R_base ho0) hb)
                                have n9_ := Aside0.mk (Kd.R_lower ho0 (below_size (by repeat (first | (with_reducible first | exact HB.out | apply below_alloc | apply pw_below_drewN | apply below_drew1) | exact HB.out))))
                                have n10_ := Aside0.mk (below_step (by repeat (first | (with_reducible first | exact HB.out | apply below_alloc | apply pw_below_drewN | apply below_drew1) | exact HB.out)) hb)
                                clear HO360
                                clear HO380
                                clear HO386
                                clear HB
                                have HO360 := n0_
                                have HO390 := n9_
                                have HB := n10_
                                clear n0_ n9_ n10_
                                (try clear hb)
                                (try clear hb2)
                                (try clear hk)
                                (try clear hi)
                                (try clear ho0)
                                obtain ⟨Ao78, co78, eo78⟩ := Kd.R_slice HO390.out
                                subst eo78
                                go_wp2_with (go_at_call 19; (with_reducible refine (spans_Meet.calls _ _ t388 _ _ l2 t391 _ ?side1 ?side2 ?side3 ?side4 A32.out).mono ?_); (case side1 => repeat (first | exact (Kd.R_reads' HO390.out).2.2 | (with_reducible refine Kd.C_alloc ?_ _) | (with_reducible refine Kd.C_drewN ?_ _) | (with_reducible refine Kd.C_drew ?_))); (case side2 => exact (Kd.R_reads' HO390.out).2.1); (case side3 => repeat (first | exact (Kd.C_below HR2.out HB.out) | (with_reducible refine Kd.C_alloc ?_ _) | (with_reducible refine Kd.C_drewN ?_ _) | (with_reducible refine Kd.C_drew ?_))); (case side4 => exact HC2.out); refine Aside0.out (p := _) ?_)
                                refine ⟨?_⟩
                                rintro e w79 ⟨v392, rfl, ho0, hb⟩
                                have n0_ := Aside0.mk (Kd.R_elder' (by (with_reducible repeat (first | apply Kd.R_alloc | apply Kd.R_drewN | apply Kd.R_drew)); exact HO360.out) (Kd.R_base ho0) hb)
                                have n10_ := Aside0.mk (Kd.R_lower ho0 (below_size (by repeat (first | (with_reducible first | exact HB.out | apply below_alloc | apply pw_below_drewN | apply below_drew1) | exact HB.out))))
                                have n11_ := Aside0.mk (below_step (by repeat (first | (with_reducible first | exact HB.out | apply below_alloc | apply pw_below_drewN | apply below_drew1) | exact HB.out)) hb)
                                clear HO360
                                clear HO390
                                clear HB
                                have HO360 := n0_
                                have HO393 := n10_
                                have HB := n11_
                                clear n0_ n10_ n11_
                                (try clear hb)
                                (try clear hb2)
                                (try clear hk)
                                (try clear hi)
                                (try clear ho0)
                                go_wp2_with (go_at_call 19; (with_reducible refine (spans_Meet.calls _ _ l1 _ _ l2 t394 _ ?side1 ?side2 ?side3 ?side4 A33.out).mono ?_); (case side1 => repeat (first | exact (Kd.C_below HR1.out HB.out) | (with_reducible refine Kd.C_alloc ?_ _) | (with_reducible refine Kd.C_drewN ?_ _) | (with_reducible refine Kd.C_drew ?_))); (case side2 => exact HC1.out); (case side3 => repeat (first | exact (Kd.C_below HR2.out HB.out) | (with_reducible refine Kd.C_alloc ?_ _) | (with_reducible refine Kd.C_drewN ?_ _) | (with_reducible refine Kd.C_drew ?_))); (case side4 => exact HC2.out); refine Aside0.out (p := _) ?_)
                                refine ⟨?_⟩
                                rintro e w80 ⟨v395, rfl, ho0, hb⟩
                                have n0_ := Aside0.mk (Kd.R_elder' (by (with_reducible repeat (first | apply Kd.R_alloc | apply Kd.R_drewN | apply Kd.R_drew)); exact HO360.out) (Kd.R_base ho0) hb)
                                have n10_ := Aside0.mk (Kd.R_elder' (by (with_reducible repeat (first | apply Kd.R_alloc | apply Kd.R_drewN | apply Kd.R_drew)); exact HO393.out) (Kd.R_base ho0) hb)
                                have n11_ := Aside0.mk (Kd.R_lower ho0 (below_size (by repeat (first | (with_reducible first | exact HB.out | apply below_alloc | apply pw_below_drewN | apply below_drew1) | exact HB.out))))
                                have n12_ := Aside0.mk (below_step (by repeat (first | (with_reducible first | exact HB.out | apply below_alloc | apply pw_below_drewN | apply below_drew1) | exact HB.out)) hb)
                                clear HO360
                                clear HO393
                                clear HB
                                have HO360 := n0_
                                have HO393 := n10_
                                have HO396 := n11_
                                have HB := n12_
                                clear n0_ n10_ n11_ n12_
                                (try clear hb)
                                (try clear hb2)
                                (try clear hk)
                                (try clear hi)
                                (try clear ho0)
                                obtain ⟨Ao81, co81, eo81⟩ := Kd.R_slice HO396.out
                                subst eo81
                                go_wp2_with (go_at_call 19; (with_reducible refine (spans_Meet.calls _ _ l0 _ _ t394 t397 _ ?side1 ?side2 ?side3 ?side4 A34.out).mono ?_); (case side1 => repeat (first | exact (Kd.C_below HR0.out HB.out) | (with_reducible refine Kd.C_alloc ?_ _) | (with_reducible refine Kd.C_drewN ?_ _) | (with_reducible refine Kd.C_drew ?_))); (case side2 => exact HC0.out); (case side3 => repeat (first | exact (Kd.R_reads' HO396.out).2.2 | (with_reducible refine Kd.C_alloc ?_ _) | (with_reducible refine Kd.C_drewN ?_ _) | (with_reducible refine Kd.C_drew ?_))); (case side4 => exact (Kd.R_reads' HO396.out).2.1); refine Aside0.out (p := _) ?_)
                                refine ⟨?_⟩
                                rintro e w82 ⟨v398, rfl, ho0, hb⟩
                                have n0_ := Aside0.mk (Kd.R_elder' (by (with_reducible repeat (first | apply Kd.R_alloc | apply Kd.R_drewN | apply Kd.R_drew)); exact HO360.out) (Kd.R_base ho0) hb)
                                have n10_ := Aside0.mk (Kd.R_elder' (by (with_reducible repeat (first | apply Kd.R_alloc | apply Kd.R_drewN | apply Kd.R_drew)); exact HO393.out) (Kd.R_base ho0) hb)
                                have n12_ := Aside0.mk (Kd.R_lower ho0 (below_size (by repeat (first | (with_reducible first | exact HB.out | apply below_alloc | apply pw_below_drewN | apply below_drew1) | exact HB.out))))
                                have n13_ := Aside0.mk (below_step (by repeat (first | (with_reducible first | exact HB.out | apply below_alloc | apply pw_below_drewN | apply below_drew1) | exact HB.out)) hb)
                                clear HO360
                                clear HO393
                                clear HO396
                                clear HB
                                have HO360 := n0_
                                have HO393 := n10_
                                have HO399 := n12_
                                have HB := n13_
                                clear n0_ n10_ n12_ n13_
                                (try clear hb)
                                (try clear hb2)
                                (try clear hk)
                                (try clear hi)
                                (try clear ho0)
                                obtain ⟨Ao83, co83, eo83⟩ := Kd.R_slice HO393.out
                                subst eo83
                                obtain ⟨Ao84, co84, eo84⟩ := Kd.R_slice HO399.out
                                subst eo84
                                go_wp2_with (go_at_call 14; (with_reducible refine (testamurref03_Same.calls kj13 _ _ t391 _ _ t397 true _ ?side1 ?side2 ?side3 ?side4 A35.out).mono ?_); (case side1 => repeat (first | exact (Kd.R_reads' HO393.out).2.2 | (with_reducible refine Kd.C_alloc ?_ _) | (with_reducible refine Kd.C_drewN ?_ _) | (with_reducible refine Kd.C_drew ?_))); (case side2 => exact (Kd.R_reads' HO393.out).2.1); (case side3 => repeat (first | exact (Kd.R_reads' HO399.out).2.2 | (with_reducible refine Kd.C_alloc ?_ _) | (with_reducible refine Kd.C_drewN ?_ _) | (with_reducible refine Kd.C_drew ?_))); (case side4 => exact (Kd.R_reads' HO399.out).2.1); refine Aside0.out (p := _) ?_)
                                refine ⟨?_⟩
                                rintro e w' ⟨rfl, ⟨nd, rfl⟩⟩
                                go_wp2_with (go_at_call 17; (with_reducible refine (spans_Union.calls _ _ l1 _ _ l2 t401 _ ?side1 ?side2 ?side3 ?side4 A37.out).mono ?_); (case side1 => repeat (first | exact (Kd.C_below HR1.out (by repeat (first | (with_reducible first | exact HB.out | apply below_alloc | apply pw_below_drewN | apply below_drew1) | exact HB.out))) | (with_reducible refine Kd.C_alloc ?_ _) | (with_reducible refine Kd.C_drewN ?_ _) | (with_reducible refine Kd.C_drew ?_))); (case side2 => exact HC1.out); (case side3 => repeat (first | exact (Kd.C_below HR2.out (by repeat (first | (with_reducible first | exact HB.out | apply below_alloc | apply pw_below_drewN | apply below_drew1) | exact HB.out))) | (with_reducible refine Kd.C_alloc ?_ _) | (with_reducible refine Kd.C_drewN ?_ _) | (with_reducible refine Kd.C_drew ?_))); (case side4 => exact HC2.out); refine Aside0.out (p := _) ?_)
                                refine ⟨?_⟩
                                rintro e w85 ⟨v402, rfl, ho0, hb⟩
                                have n0_ := Aside0.mk (Kd.R_elder' (by (with_reducible repeat (first | apply Kd.R_alloc | apply Kd.R_drewN | apply Kd.R_drew)); exact HO360.out) (Kd.R_base ho0) hb)
                                have n13_ := Aside0.mk (Kd.R_lower ho0 (below_size (by repeat (first | (with_reducible first | exact HB.out | apply below_alloc | apply pw_below_drewN | apply below_drew1) | exact HB.out))))
                                have n14_ := Aside0.mk (below_step (by repeat (first | (with_reducible first | exact HB.out | apply below_alloc | apply pw_below_drewN | apply below_drew1) | exact HB.out)) hb)
                                clear HO360
                                clear HO393
                                clear HO399
                                clear HB
                                have HO360 := n0_
                                have HO403 := n13_
                                have HB := n14_
                                clear n0_ n13_ n14_
                                (try clear hb)
                                (try clear hb2)
                                (try clear hk)
                                (try clear hi)
                                (try clear ho0)
                                obtain ⟨Ao86, co86, eo86⟩ := Kd.R_slice HO403.out
                                subst eo86
                                go_wp2_with (go_at_call 19; (with_reducible refine (spans_Meet.calls _ _ l0 _ _ t401 t404 _ ?side1 ?side2 ?side3 ?side4 A38.out).mono ?_); (case side1 => repeat (first | exact (Kd.C_below HR0.out HB.out) | (with_reducible refine Kd.C_alloc ?_ _) | (with_reducible refine Kd.C_drewN ?_ _) | (with_reducible refine Kd.C_drew ?_))); (case side2 => exact HC0.out); (case side3 => repeat (first | exact (Kd.R_reads' HO403.out).2.2 | (with_reducible refine Kd.C_alloc ?_ _) | (with_reducible refine Kd.C_drewN ?_ _) | (with_reducible refine Kd.C_drew ?_))); (case side4 => exact (Kd.R_reads' HO403.out).2.1); refine Aside0.out (p := _) ?_)
                                refine ⟨?_⟩
                                rintro e w87 ⟨v405, rfl, ho0, hb⟩
                                have n0_ := Aside0.mk (Kd.R_elder' (by (with_reducible repeat (first | apply Kd.R_alloc | apply Kd.R_drewN | apply Kd.R_drew)); exact HO360.out) (Kd.R_base ho0) hb)
                                have n14_ := Aside0.mk (Kd.R_lower ho0 (below_size (by repeat (first | (with_reducible first | exact HB.out | apply below_alloc | apply pw_below_drewN | apply below_drew1) | exact HB.out))))
                                have n15_ := Aside0.mk (below_step (by repeat (first | (with_reducible first | exact HB.out | apply below_alloc | apply pw_below_drewN | apply below_drew1) | exact HB.out)) hb)
                                clear HO360
                                clear HO403
                                clear HB
                                have HO360 := n0_
                                have HO406 := n14_
                                have HB := n15_
                                clear n0_ n14_ n15_
                                (try clear hb)
                                (try clear hb2)
                                (try clear hk)
                                (try clear hi)
                                (try clear ho0)
                                go_wp2_with (go_at_call 19; (with_reducible refine (spans_Meet.calls _ _ l0 _ _ l1 t407 _ ?side1 ?side2 ?side3 ?side4 A39.out).mono ?_); (case side1 => repeat (first | exact (Kd.C_below HR0.out HB.out) | (with_reducible refine Kd.C_alloc ?_ _) | (with_reducible refine Kd.C_drewN ?_ _) | (with_reducible refine Kd.C_drew ?_))); (case side2 => exact HC0.out); (case side3 => repeat (first | exact (Kd.C_below HR1.out HB.out) | (with_reducible refine Kd.C_alloc ?_ _) | (with_reducible refine Kd.C_drewN ?_ _) | (with_reducible refine Kd.C_drew ?_))); (case side4 => exact HC1.out); refine Aside0.out (p := _) ?_)
                                refine ⟨?_⟩
                                rintro e w88 ⟨v408, rfl, ho0, hb⟩
                                have n0_ := Aside0.mk (Kd.R_elder' (by (with_reducible repeat (first | apply Kd.R_alloc | apply Kd.R_drewN | apply Kd.R_drew)); exact HO360.out) (Kd.R_base ho0) hb)
                                have n14_ := Aside0.mk (Kd.R_elder' (by (with_reducible repeat (first | apply Kd.R_alloc | apply Kd.R_drewN | apply Kd.R_drew)); exact HO406.out) (Kd.R_base ho0) hb)
                                have n15_ := Aside0.mk (Kd.R_lower ho0 (below_size (by repeat (first | (with_reducible first | exact HB.out | apply below_alloc | apply pw_below_drewN | apply below_drew1) | exact HB.out))))
                                have n16_ := Aside0.mk (below_step (by repeat (first | (with_reducible first | exact HB.out | apply below_alloc | apply pw_below_drewN | apply below_drew1) | exact HB.out)) hb)
                                clear HO360
                                clear HO406
                                clear HB
                                have HO360 := n0_
                                have HO406 := n14_
                                have HO409 := n15_
                                have HB := n16_
                                clear n0_ n14_ n15_ n16_
                                (try clear hb)
                                (try clear hb2)
                                (try clear hk)
                                (try clear hi)
                                (try clear ho0)
                                go_wp2_with (go_at_call 19; (with_reducible refine (spans_Meet.calls _ _ l0 _ _ l2 t410 _ ?side1 ?side2 ?side3 ?side4 A40.out).mono ?_); (case side1 => repeat (first | exact (Kd.C_below HR0.out HB.out) | (with_reducible refine Kd.C_alloc ?_ _) | (with_reducible refine Kd.C_drewN ?_ _) | (with_reducible refine Kd.C_drew ?_))); (case side2 => exact HC0.out); (case side3 => repeat (first | exact (Kd.C_below HR2.out HB.out) | (with_reducible refine Kd.C_alloc ?_ _) | (with_reducible refine Kd.C_drewN ?_ _) | (with_reducible refine Kd.C_drew ?_))); (case side4 => exact HC2.out); refine Aside0.out (p := _) ?_)
                                refine ⟨?_⟩
                                rintro e w89 ⟨v411, rfl, ho0, hb⟩
                                have n0_ := Aside0.mk (Kd.R_elder' (by (with_reducible repeat (first | apply Kd.R_alloc | apply Kd.R_drewN | apply Kd.R_drew)); exact HO360.out) (Kd.R_base ho0) hb)
                                have n14_ := Aside0.mk (Kd.R_elder' (by (with_reducible repeat (first | apply Kd.R_alloc | apply Kd.R_drewN | apply Kd.R_drew)); exact HO406.out) (Kd.R_base ho0) hb)
                                have n15_ := Aside0.mk (Kd.R_elder' (by (with_reducible repeat (first | apply Kd.R_alloc | apply Kd.R_drewN | apply Kd.R_drew)); exact HO409.out) (Kd.R_base ho0) hb)
                                have n16_ := Aside0.mk (Kd.R_lower ho0 (below_size (by repeat (first | (with_reducible first | exact HB.out | apply below_alloc | apply pw_below_drewN | apply below_drew1) | exact HB.out))))
                                have n17_ := Aside0.mk (below_step (by repeat (first | (with_reducible first | exact HB.out | apply below_alloc | apply pw_below_drewN | apply below_drew1) | exact HB.out)) hb)
                                clear HO360
                                clear HO406
                                clear HO409
                                clear HB
                                have HO360 := n0_
                                have HO406 := n14_
                                have HO409 := n15_
                                have HO412 := n16_
                                have HB := n17_
                                clear n0_ n14_ n15_ n16_ n17_
                                (try clear hb)
                                (try clear hb2)
                                (try clear hk)
                                (try clear hi)
                                (try clear ho0)
                                obtain ⟨Ao90, co90, eo90⟩ := Kd.R_slice HO409.out
                                subst eo90
                                obtain ⟨Ao91, co91, eo91⟩ := Kd.R_slice HO412.out
                                subst eo91
                                go_wp2_with (go_at_call 17; (with_reducible refine (spans_Union.calls _ _ t407 _ _ t410 t413 _ ?side1 ?side2 ?side3 ?side4 A41.out).mono ?_); (case side1 => repeat (first | exact (Kd.R_reads' HO409.out).2.2 | (with_reducible refine Kd.C_alloc ?_ _) | (with_reducible refine Kd.C_drewN ?_ _) | (with_reducible refine Kd.C_drew ?_))); (case side2 => exact (Kd.R_reads' HO409.out).2.1); (case side3 => repeat (first | exact (Kd.R_reads' HO412.out).2.2 | (with_reducible refine Kd.C_alloc ?_ _) | (with_reducible refine Kd.C_drewN ?_ _) | (with_reducible refine Kd.C_drew ?_))); (case side4 => exact (Kd.R_reads' HO412.out).2.1); refine Aside0.out (p := _) ?_)
                                refine ⟨?_⟩
                                rintro e w92 ⟨v414, rfl, ho0, hb⟩
                                have n0_ := Aside0.mk (Kd.R_elder' (by (with_reducible repeat (first | apply Kd.R_alloc | apply Kd.R_drewN | apply Kd.R_drew)); exact HO360.out) (Kd.R_base ho0) hb)
                                have n14_ := Aside0.mk (Kd.R_elder' (by (with_reducible repeat (first | apply Kd.R_alloc | apply Kd.R_drewN | apply Kd.R_drew)); exact HO406.out) (Kd.R_base ho0) hb)
                                have n17_ := Aside0.mk (Kd.R_lower ho0 (below_size (by repeat (first | (with_reducible first | exact HB.out | apply below_alloc | apply pw_below_drewN | apply below_drew1) | exact HB.out))))
                                have n18_ := Aside0.mk (below_step (by repeat (first | (with_reducible first | exact HB.out | apply below_alloc | apply pw_below_drewN | apply below_drew1) | exact HB.out)) hb)
                                clear HO360
                                clear HO406
                                clear HO409
                                clear HO412
                                clear HB
                                have HO360 := n0_
                                have HO406 := n14_
                                have HO415 := n17_
                                have HB := n18_
                                clear n0_ n14_ n17_ n18_
                                (try clear hb)
                                (try clear hb2)
                                (try clear hk)
                                (try clear hi)
                                (try clear ho0)
                                obtain ⟨Ao93, co93, eo93⟩ := Kd.R_slice HO406.out
                                subst eo93
                                obtain ⟨Ao94, co94, eo94⟩ := Kd.R_slice HO415.out
                                subst eo94
                                go_wp2_with (go_at_call 14; (with_reducible refine (testamurref03_Same.calls kj13 _ _ t404 _ _ t413 true _ ?side1 ?side2 ?side3 ?side4 A42.out).mono ?_); (case side1 => repeat (first | exact (Kd.R_reads' HO406.out).2.2 | (with_reducible refine Kd.C_alloc ?_ _) | (with_reducible refine Kd.C_drewN ?_ _) | (with_reducible refine Kd.C_drew ?_))); (case side2 => exact (Kd.R_reads' HO406.out).2.1); (case side3 => repeat (first | exact (Kd.R_reads' HO415.out).2.2 | (with_reducible refine Kd.C_alloc ?_ _) | (with_reducible refine Kd.C_drewN ?_ _) | (with_reducible refine Kd.C_drew ?_))); (case side4 => exact (Kd.R_reads' HO415.out).2.1); refine Aside0.out (p := _) ?_)
                                refine ⟨?_⟩
                                rintro e w' ⟨rfl, ⟨nd, rfl⟩⟩
                                go_wp2_with (go_at_call 17; (with_reducible refine (spans_Union.calls _ _ l0 _ _ l0 t417 _ ?side1 ?side2 ?side3 ?side4 A44.out).mono ?_); (case side1 => repeat (first | exact (Kd.C_below HR0.out (by repeat (first | (with_reducible first | exact HB.out | apply below_alloc | apply pw_below_drewN | apply below_drew1) | exact HB.out))) | (with_reducible refine Kd.C_alloc ?_ _) | (with_reducible refine Kd.C_drewN ?_ _) | (with_reducible refine Kd.C_drew ?_))); (case side2 => exact HC0.out); (case side3 => repeat (first | exact (Kd.C_below HR0.out (by repeat (first | (with_reducible first | exact HB.out | apply below_alloc | apply pw_below_drewN | apply below_drew1) | exact HB.out))) | (with_reducible refine Kd.C_alloc ?_ _) | (with_reducible refine Kd.C_drewN ?_ _) | (with_reducible refine Kd.C_drew ?_))); (case side4 => exact HC0.out); refine Aside0.out (p := _) ?_)
                                refine ⟨?_⟩
                                rintro e w95 ⟨v418, rfl, ho0, hb⟩
                                have n0_ := Aside0.mk (Kd.R_elder' (by (with_reducible repeat (first | apply Kd.R_alloc | apply Kd.R_drewN | apply Kd.R_drew)); exact HO360.out) (Kd.R_base ho0) hb)
                                have n18_ := Aside0.mk (Kd.R_lower ho0 (below_size (by repeat (first | (with_reducible first | exact HB.out | apply below_alloc | apply pw_below_drewN | apply below_drew1) | exact HB.out))))
                                have n19_ := Aside0.mk (below_step (by repeat (first | (with_reducible first | exact HB.out | apply below_alloc | apply pw_below_drewN | apply below_drew1) | exact HB.out)) hb)
                                clear HO360
                                clear HO406
                                clear HO415
                                clear HB
                                have HO360 := n0_
                                have HO419 := n18_
                                have HB := n19_
                                clear n0_ n18_ n19_
                                (try clear hb)
                                (try clear hb2)
                                (try clear hk)
                                (try clear hi)
                                (try clear ho0)
                                obtain ⟨Ao96, co96, eo96⟩ := Kd.R_slice HO419.out
                                subst eo96
                                obtain ⟨Ao97, co97, eo97⟩ := Kd.R_slice HO360.out
                                subst eo97
                                go_wp2_with (go_at_call 14; (with_reducible refine (testamurref03_Same.calls kj13 _ _ t417 _ _ t358 true _ ?side1 ?side2 ?side3 ?side4 A45.out).mono ?_); (case side1 => repeat (first | exact (Kd.R_reads' HO419.out).2.2 | (with_reducible refine Kd.C_alloc ?_ _) | (with_reducible refine Kd.C_drewN ?_ _) | (with_reducible refine Kd.C_drew ?_))); (case side2 => exact (Kd.R_reads' HO419.out).2.1); (case side3 => repeat (first | exact (Kd.R_reads' HO360.out).2.2 | (with_reducible refine Kd.C_alloc ?_ _) | (with_reducible refine Kd.C_drewN ?_ _) | (with_reducible refine Kd.C_drew ?_))); (case side4 => exact (Kd.R_reads' HO360.out).2.1); refine Aside0.out (p := _) ?_)
                                refine ⟨?_⟩
                                rintro e w' ⟨rfl, ⟨nd, rfl⟩⟩
                                go_wp2_with (go_at_call 19; (with_reducible refine (spans_Meet.calls _ _ l0 _ _ l0 t421 _ ?side1 ?side2 ?side3 ?side4 A47.out).mono ?_); (case side1 => repeat (first | exact (Kd.C_below HR0.out (by repeat (first | (with_reducible first | exact HB.out | apply below_alloc | apply pw_below_drewN | apply below_drew1) | exact HB.out))) | (with_reducible refine Kd.C_alloc ?_ _) | (with_reducible refine Kd.C_drewN ?_ _) | (with_reducible refine Kd.C_drew ?_))); (case side2 => exact HC0.out); (case side3 => repeat (first | exact (Kd.C_below HR0.out (by repeat (first | (with_reducible first | exact HB.out | apply below_alloc | apply pw_below_drewN | apply below_drew1) | exact HB.out))) | (with_reducible refine Kd.C_alloc ?_ _) | (with_reducible refine Kd.C_drewN ?_ _) | (with_reducible refine Kd.C_drew ?_))); (case side4 => exact HC0.out); refine Aside0.out (p := _) ?_)
                                refine ⟨?_⟩
                                rintro e w98 ⟨v422, rfl, ho0, hb⟩
                                have n0_ := Aside0.mk (Kd.R_elder' (by (with_reducible repeat (first | apply Kd.R_alloc | apply Kd.R_drewN | apply Kd.R_drew)); exact HO360.out) (Kd.R_base ho0) hb)
                                have n19_ := Aside0.mk (Kd.R_lower ho0 (below_size (by repeat (first | (with_reducible first | exact HB.out | apply below_alloc | apply pw_below_drewN | apply below_drew1) | exact HB.out))))
                                have n20_ := Aside0.mk (below_step (by repeat (first | (with_reducible first | exact HB.out | apply below_alloc | apply pw_below_drewN | apply below_drew1) | exact HB.out)) hb)
                                clear HO360
                                clear HO419
                                clear HB
                                have HO360 := n0_
                                have HO423 := n19_
                                have HB := n20_
                                clear n0_ n19_ n20_
                                (try clear hb)
                                (try clear hb2)
                                (try clear hk)
                                (try clear hi)
                                (try clear ho0)
                                obtain ⟨Ao99, co99, eo99⟩ := Kd.R_slice HO423.out
                                subst eo99
                                go_wp2_with (go_at_call 14; (with_reducible refine (testamurref03_Same.calls kj13 _ _ t421 _ _ t358 true _ ?side1 ?side2 ?side3 ?side4 A48.out).mono ?_); (case side1 => repeat (first | exact (Kd.R_reads' HO423.out).2.2 | (with_reducible refine Kd.C_alloc ?_ _) | (with_reducible refine Kd.C_drewN ?_ _) | (with_reducible refine Kd.C_drew ?_))); (case side2 => exact (Kd.R_reads' HO423.out).2.1); (case side3 => repeat (first | exact (Kd.R_reads' HO360.out).2.2 | (with_reducible refine Kd.C_alloc ?_ _) | (with_reducible refine Kd.C_drewN ?_ _) | (with_reducible refine Kd.C_drew ?_))); (case side4 => exact (Kd.R_reads' HO360.out).2.1); refine Aside0.out (p := _) ?_)
                                refine ⟨?_⟩
                                rintro e w' ⟨rfl, ⟨nd, rfl⟩⟩
                                go_wp2_with (go_at_call 15; (with_reducible refine (spans_Normal.calls _ _ t358 t425 _ ?side1 ?side2 A50.out).mono ?_); (case side1 => repeat (first | exact (Kd.R_reads' HO360.out).2.2 | (with_reducible refine Kd.C_alloc ?_ _) | (with_reducible refine Kd.C_drewN ?_ _) | (with_reducible refine Kd.C_drew ?_))); (case side2 => exact (Kd.R_reads' HO360.out).2.1); refine Aside0.out (p := _) ?_)
                                refine ⟨?_⟩
                                rintro e w100 ⟨v426, rfl, ho0, hb⟩
                                have n0_ := Aside0.mk (Kd.R_elder' (by (with_reducible repeat (first | apply Kd.R_alloc | apply Kd.R_drewN | apply Kd.R_drew)); exact HO360.out) (Kd.R_base ho0) hb)
                                have n20_ := Aside0.mk (Kd.R_lower ho0 (below_size (by repeat (first | (with_reducible first | exact HB.out | apply below_alloc | apply pw_below_drewN | apply below_drew1) | exact HB.out))))
                                have n21_ := Aside0.mk (below_step (by repeat (first | (with_reducible first | exact HB.out | apply below_alloc | apply pw_below_drewN | apply below_drew1) | exact HB.out)) hb)
                                clear HO360
                                clear HO423
                                clear HB
                                have HO360 := n0_
                                have HO427 := n20_
                                have HB := n21_
                                clear n0_ n20_ n21_
                                (try clear hb)
                                (try clear hb2)
                                (try clear hk)
                                (try clear hi)
                                (try clear ho0)
                                obtain ⟨Ao101, co101, eo101⟩ := Kd.R_slice HO427.out
                                subst eo101
                                go_wp2_with (go_at_call 14; (with_reducible refine (testamurref03_Same.calls kj13 _ _ t425 _ _ t358 true _ ?side1 ?side2 ?side3 ?side4 A51.out).mono ?_); (case side1 => repeat (first | exact (Kd.R_reads' HO427.out).2.2 | (with_reducible refine Kd.C_alloc ?_ _) | (with_reducible refine Kd.C_drewN ?_ _) | (with_reducible refine Kd.C_drew ?_))); (case side2 => exact (Kd.R_reads' HO427.out).2.1); (case side3 => repeat (first | exact (Kd.R_reads' HO360.out).2.2 | (with_reducible refine Kd.C_alloc ?_ _) | (with_reducible refine Kd.C_drewN ?_ _) | (with_reducible refine Kd.C_drew ?_))); (case side4 => exact (Kd.R_reads' HO360.out).2.1); refine Aside0.out (p := _) ?_)
                                refine ⟨?_⟩
                                rintro e w' ⟨rfl, ⟨nd, rfl⟩⟩
                                go_wp2_with (go_at_call 17; (with_reducible refine (spans_Union.calls _ _ l1 _ _ l2 t429 _ ?side1 ?side2 ?side3 ?side4 A53.out).mono ?_); (case side1 => repeat (first | exact (Kd.C_below HR1.out (by repeat (first | (with_reducible first | exact HB.out | apply below_alloc | apply pw_below_drewN | apply below_drew1) | exact HB.out))) | (with_reducible refine Kd.C_alloc ?_ _) | (with_reducible refine Kd.C_drewN ?_ _) | (with_reducible refine Kd.C_drew ?_))); (case side2 => exact HC1.out); (case side3 => repeat (first | exact (Kd.C_below HR2.out (by repeat (first | (with_reducible first | exact HB.out | apply below_alloc | apply pw_below_drewN | apply below_drew1) | exact HB.out))) | (with_reducible refine Kd.C_alloc ?_ _) | (with_reducible refine Kd.C_drewN ?_ _) | (with_reducible refine Kd.C_drew ?_))); (case side4 => exact HC2.out); refine Aside0.out (p := _) ?_)
                                refine ⟨?_⟩
                                rintro e w102 ⟨v430, rfl, ho0, hb⟩
                                have n21_ := Aside0.mk (Kd.R_lower ho0 (below_size (by repeat (first | (with_reducible first | exact HB.out | apply below_alloc | apply pw_below_drewN | apply below_drew1) | exact HB.out))))
                                have n22_ := Aside0.mk (below_step (by repeat (first | (with_reducible first | exact HB.out | apply below_alloc | apply pw_below_drewN | apply below_drew1) | exact HB.out)) hb)
                                clear HO360
                                clear HO427
                                clear HB
                                have HO431 := n21_
                                have HB := n22_
                                clear n21_ n22_
                                (try clear hb)
                                (try clear hb2)
                                (try clear hk)
                                (try clear hi)
                                (try clear ho0)
                                obtain ⟨Ao103, co103, eo103⟩ := Kd.R_slice HO431.out
                                subst eo103
                                go_wp2_with (go_at_call 21; (with_reducible refine (spans_Minus.calls _ _ l0 _ _ t429 t432 _ ?side1 ?side2 ?side3 ?side4 A54.out).mono ?_); (case side1 => repeat (first | exact (Kd.C_below HR0.out HB.out) | (with_reducible refine Kd.C_alloc ?_ _) | (with_reducible refine Kd.C_drewN ?_ _) | (with_reducible refine Kd.C_drew ?_))); (case side2 => exact HC0.out); (case side3 => repeat (first | exact (Kd.R_reads' HO431.out).2.2 | (with_reducible refine Kd.C_alloc ?_ _) | (with_reducible refine Kd.C_drewN ?_ _) | (with_reducible refine Kd.C_drew ?_))); (case side4 => exact (Kd.R_reads' HO431.out).2.1); refine Aside0.out (p := _) ?_)
                                refine ⟨?_⟩
                                rintro e w104 ⟨v433, rfl, ho0, hb⟩
                                have n22_ := Aside0.mk (Kd.R_lower ho0 (below_size (by repeat (first | (with_reducible first | exact HB.out | apply below_alloc | apply pw_below_drewN | apply below_drew1) | exact HB.out))))
                                have n23_ := Aside0.mk (below_step (by repeat (first | (with_reducible first | exact HB.out | apply below_alloc | apply pw_below_drewN | apply below_drew1) | exact HB.out)) hb)
                                clear HO431
                                clear HB
                                have HO434 := n22_
                                have HB := n23_
                                clear n22_ n23_
                                (try clear hb)
                                (try clear hb2)
                                (try clear hk)
                                (try clear hi)
                                (try clear ho0)
                                go_wp2_with (go_at_call 21; (with_reducible refine (spans_Minus.calls _ _ l0 _ _ l1 t435 _ ?side1 ?side2 ?side3 ?side4 A55.out).mono ?_); (case side1 => repeat (first | exact (Kd.C_below HR0.out HB.out) | (with_reducible refine Kd.C_alloc ?_ _) | (with_reducible refine Kd.C_drewN ?_ _) | (with_reducible refine Kd.C_drew ?_))); (case side2 => exact HC0.out); (case side3 => repeat (first | exact (Kd.C_below HR1.out HB.out) | (with_reducible refine Kd.C_alloc ?_ _) | (with_reducible refine Kd.C_drewN ?_ _) | (with_reducible refine Kd.C_drew ?_))); (case side4 => exact HC1.out); refine Aside0.out (p := _) ?_)
                                refine ⟨?_⟩
                                rintro e w105 ⟨v436, rfl, ho0, hb⟩
                                have n22_ := Aside0.mk (Kd.R_elder' (by (with_reducible repeat (first | apply Kd.R_alloc | apply Kd.R_drewN | apply Kd.R_drew)); exact HO434.out) (Kd.R_base ho0) hb)
                                have n23_ := Aside0.mk (Kd.R_lower ho0 (below_size (by repeat (first | (with_reducible first | exact HB.out | apply below_alloc | apply pw_below_drewN | apply below_drew1) | exact HB.out))))
                                have n24_ := Aside0.mk (below_step (by repeat (first | (with_reducible first | exact HB.out | apply below_alloc | apply pw_below_drewN | apply below_drew1) | exact HB.out)) hb)
                                clear HO434
                                clear HB
                                have HO434 := n22_
                                have HO437 := n23_
                                have HB := n24_
                                clear n22_ n23_ n24_
                                (try clear hb)
                                (try clear hb2)
                                (try clear hk)
                                (try clear hi)
                                (try clear ho0)
                                obtain ⟨Ao106, co106, eo106⟩ := Kd.R_slice HO437.out
                                subst eo106
                                go_wp2_with (go_at_call 21; (with_reducible refine (spans_Minus.calls _ _ t435 _ _ l2 t438 _ ?side1 ?side2 ?side3 ?side4 A56.out).mono ?_); (case side1 => repeat (first | exact (Kd.R_reads' HO437.out).2.2 | (with_reducible refine Kd.C_alloc ?_ _) | (with_reducible refine Kd.C_drewN ?_ _) | (with_reducible refine Kd.C_drew ?_))); (case side2 => exact (Kd.R_reads' HO437.out).2.1); (case side3 => repeat (first | exact (Kd.C_below HR2.out HB.out) | (with_reducible refine Kd.C_alloc ?_ _) | (with_reducible refine Kd.C_drewN ?_ _) | (with_reducible refine Kd.C_drew ?_))); (case side4 => exact HC2.out); refine Aside0.out (p := _) ?_)
                                refine ⟨?_⟩
                                rintro e w107 ⟨v439, rfl, ho0, hb⟩
                                have n22_ := Aside0.mk (Kd.R_elder' (by (with_reducible repeat (first | apply Kd.R_alloc | apply Kd.R_drewN | apply Kd.R_drew)); exact HO434.out) (Kd.R_base ho0) hb)
                                have n24_ := Aside0.mk (Kd.R_lower ho0 (below_size (by repeat (first | (with_reducible first | exact HB.out | apply below_alloc | apply pw_below_drewN | apply below_drew1) | exact HB.out))))
                                have n25_ := Aside0.mk (below_step (by repeat (first | (with_reducible first | exact HB.out | apply below_alloc | apply pw_below_drewN | apply below_drew1) | exact HB.out)) hb)
                                clear HO434
                                clear HO437
                                clear HB
                                have HO434 := n22_
                                have HO440 := n24_
                                have HB := n25_
                                clear n22_ n24_ n25_
                                (try clear hb)
                                (try clear hb2)
                                (try clear hk)
                                (try clear hi)
                                (try clear ho0)
                                obtain ⟨Ao108, co108, eo108⟩ := Kd.R_slice HO434.out
                                subst eo108
                                obtain ⟨Ao109, co109, eo109⟩ := Kd.R_slice HO440.out
                                subst eo109
                                go_wp2_with (go_at_call 14; (with_reducible refine (testamurref03_Same.calls kj13 _ _ t432 _ _ t438 true _ ?side1 ?side2 ?side3 ?side4 A57.out).mono ?_); (case side1 => repeat (first | exact (Kd.R_reads' HO434.out).2.2 | (with_reducible refine Kd.C_alloc ?_ _) | (with_reducible refine Kd.C_drewN ?_ _) | (with_reducible refine Kd.C_drew ?_))); (case side2 => exact (Kd.R_reads' HO434.out).2.1); (case side3 => repeat (first | exact (Kd.R_reads' HO440.out).2.2 | (with_reducible refine Kd.C_alloc ?_ _) | (with_reducible refine Kd.C_drewN ?_ _) | (with_reducible refine Kd.C_drew ?_))); (case side4 => exact (Kd.R_reads' HO440.out).2.1); refine Aside0.out (p := _) ?_)
                                refine ⟨?_⟩
                                rintro e w' ⟨rfl, ⟨nd, rfl⟩⟩
                                go_wp2_with (go_at_call 21; (with_reducible refine (spans_Minus.calls _ _ l0 _ _ l0 t442 _ ?side1 ?side2 ?side3 ?side4 A59.out).mono ?_); (case side1 => repeat (first | exact (Kd.C_below HR0.out (by repeat (first | (with_reducible first | exact HB.out | apply below_alloc | apply pw_below_drewN | apply below_drew1) | exact HB.out))) | (with_reducible refine Kd.C_alloc ?_ _) | (with_reducible refine Kd.C_drewN ?_ _) | (with_reducible refine Kd.C_drew ?_))); (case side2 => exact HC0.out); (case side3 => repeat (first | exact (Kd.C_below HR0.out (by repeat (first | (with_reducible first | exact HB.out | apply below_alloc | apply pw_below_drewN | apply below_drew1) | exact HB.out))) | (with_reducible refine Kd.C_alloc ?_ _) | (with_reducible refine Kd.C_drewN ?_ _) | (with_reducible refine Kd.C_drew ?_))); (case side4 => exact HC0.out); refine Aside0.out (p := _) ?_)
                                refine ⟨?_⟩
                                rintro e w110 ⟨v443, rfl, ho0, hb⟩
                                have n25_ := Aside0.mk (Kd.R_lower ho0 (below_size (by repeat (first | (with_reducible first | exact HB.out | apply below_alloc | apply pw_below_drewN | apply below_drew1) | exact HB.out))))
                                have n26_ := Aside0.mk (below_step (by repeat (first | (with_reducible first | exact HB.out | apply below_alloc | apply pw_below_drewN | apply below_drew1) | exact HB.out)) hb)
                                clear HO434
                                clear HO440
                                clear HB
                                have HO444 := n25_
                                have HB := n26_
                                clear n25_ n26_
                                (try clear hb)
                                (try clear hb2)
                                (try clear hk)
                                (try clear hi)
                                (try clear ho0)
                                obtain ⟨Ao111, co111, eo111⟩ := Kd.R_slice HO444.out
                                subst eo111
                                go_wp2
                                go_ret
                                exact ⟨by first | rfl | (simp [errW_none, errW_some] <;> rfl) | (simp [*, errW_none, errW_some] <;> rfl), by repeat (first | (with_reducible first | exact HB.out | apply below_alloc | apply pw_below_drewN | apply below_drew1) | exact HB.out)⟩
                              · replace c58 := Bool.eq_false_iff.mpr c58
                                subst c58
                                have H1 : (none) = some r := by rw [if_neg (show ¬ (false = true) by decide)] at H; exact H
                                clear H
                                have H := H1
                                clear H1
                                exact absurd H (by simp)
                            · replace c52 := Bool.eq_false_iff.mpr c52
                              subst c52
                              have H1 : (none) = some r := by rw [if_neg (show ¬ (false = true) by decide)] at H; exact H
                              clear H
                              have H := H1
                              clear H1
                              exact absurd H (by simp)
                          · replace c49 := Bool.eq_false_iff.mpr c49
                            subst c49
                            have H1 : (none) = some r := by rw [if_neg (show ¬ (false = true) by decide)] at H; exact H
                            clear H
                            have H := H1
                            clear H1
                            exact absurd H (by simp)
                        · replace c46 := Bool.eq_false_iff.mpr c46
                          subst c46
                          have H1 : (none) = some r := by rw [if_neg (show ¬ (false = true) by decide)] at H; exact H
                          clear H
                          have H := H1
                          clear H1
                          exact absurd H (by simp)
                      · replace c43 := Bool.eq_false_iff.mpr c43
                        subst c43
                        have H1 : (none) = some r := by rw [if_neg (show ¬ (false = true) by decide)] at H; exact H
                        clear H
                        have H := H1
                        clear H1
                        exact absurd H (by simp)
                    · replace c36 := Bool.eq_false_iff.mpr c36
                      subst c36
                      have H1 : (none) = some r := by rw [if_neg (show ¬ (false = true) by decide)] at H; exact H
                      clear H
                      have H := H1
                      clear H1
                      exact absurd H (by simp)
                  · replace c30 := Bool.eq_false_iff.mpr c30
                    subst c30
                    have H1 : (none) = some r := by rw [if_neg (show ¬ (false = true) by decide)] at H; exact H
                    clear H
                    have H := H1
                    clear H1
                    exact absurd H (by simp)
                · replace c24 := Bool.eq_false_iff.mpr c24
                  subst c24
                  have H1 : (none) = some r := by rw [if_neg (show ¬ (false = true) by decide)] at H; exact H
                  clear H
                  have H := H1
                  clear H1
                  exact absurd H (by simp)
              · replace c20 := Bool.eq_false_iff.mpr c20
                subst c20
                have H1 : (none) = some r := by rw [if_neg (show ¬ (false = true) by decide)] at H; exact H
                clear H
                have H := H1
                clear H1
                exact absurd H (by simp)

end Go.Proofs.Ytcemfklhbgnflaa.P
