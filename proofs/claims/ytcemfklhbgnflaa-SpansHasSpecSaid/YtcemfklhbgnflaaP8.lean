-- printed by gprint.py (a program of this seat over the kit's print.py): Lean checks it
import Derived.Test.YtcemfklhbgnflaaP0
import Derived.Test.YtcemfklhbgnflaaP2
import Derived.Test.YtcemfklhbgnflaaP3
import Derived.Test.YtcemfklhbgnflaaP4
import Derived.Test.YtcemfklhbgnflaaG
import Derived.Test.YtcemfklhbgnflaaH
namespace Go.Proofs.Ytcemfklhbgnflaa.P
open Go.RowKit Go.Proofs.YtcemfklhbgnflaaW.PrintWords Go.Proofs.YtcemfklhbgnflaaW.PrintLast Go.Proofs.YtcemfklhbgnflaaW.PrintMore
attribute [local go_sem] max2_int min2_int max_two min_two max_three min_three max_four min_four   -- for this text's walks alone
set_option linter.unusedVariables false
set_option linter.unusedSimpArgs false

/-! ### testamurlaw03_SpansAlgebra: function 7 -/
mutual
def testamurlaw03_SpansAlgebra.j0 : Nat → List (S31) → List (S31) → List (S31) → Option (Bool)
  | 0, _, _, _ => none
  | k + 1, x0, x1, x2 => (testamurref03_Few.f x0).bind fun t397 => (if t397 = true then ((testamurref03_Few.f x1).bind fun t398 => (if t398 = true then ((testamurref03_Few.f x2).bind fun t399 => (testamurlaw03_SpansAlgebra.j1 k x0 x1 x2 (!t399))) else (testamurlaw03_SpansAlgebra.j1 k x0 x1 x2 true))) else (testamurlaw03_SpansAlgebra.j1 k x0 x1 x2 true))
def testamurlaw03_SpansAlgebra.j1 : Nat → List (S31) → List (S31) → List (S31) → Bool → Option (Bool)
  | 0, _, _, _, _ => none
  | k + 1, x0, x1, x2, x22 => if x22 = true then (some true) else (testamurlaw03_SpansAlgebra.j2 k x0 x1 x2)
def testamurlaw03_SpansAlgebra.j2 : Nat → List (S31) → List (S31) → List (S31) → Option (Bool)
  | 0, _, _, _ => none
  | k + 1, x0, x1, x2 => (spans_Normal.f x0).bind fun t400 => ((spans_Union.f x0 x1).bind fun t403 => ((spans_Union.f x1 x0).bind fun t406 => ((testamurref03_Same.f k t403 t406).bind fun t409 => (if t409 = true then ((spans_Meet.f x0 x1).bind fun t410 => ((spans_Meet.f x1 x0).bind fun t413 => ((testamurref03_Same.f k t410 t413).bind fun t416 => (if t416 = true then ((spans_Union.f x0 x1).bind fun t417 => ((spans_Union.f t417 x2).bind fun t420 => ((spans_Union.f x1 x2).bind fun t423 => ((spans_Union.f x0 t423).bind fun t426 => ((testamurref03_Same.f k t420 t426).bind fun t429 => (if t429 = true then ((spans_Meet.f x0 x1).bind fun t430 => ((spans_Meet.f t430 x2).bind fun t433 => ((spans_Meet.f x1 x2).bind fun t436 => ((spans_Meet.f x0 t436).bind fun t439 => ((testamurref03_Same.f k t433 t439).bind fun t442 => (if t442 = true then ((spans_Union.f x1 x2).bind fun t443 => ((spans_Meet.f x0 t443).bind fun t446 => ((spans_Meet.f x0 x1).bind fun t449 => ((spans_Meet.f x0 x2).bind fun t452 => ((spans_Union.f t449 t452).bind fun t455 => ((testamurref03_Same.f k t446 t455).bind fun t458 => (if t458 = true then ((spans_Union.f x0 x0).bind fun t459 => ((testamurref03_Same.f k t459 t400).bind fun t462 => (if t462 = true then ((spans_Meet.f x0 x0).bind fun t463 => ((testamurref03_Same.f k t463 t400).bind fun t466 => (if t466 = true then ((spans_Normal.f t400).bind fun t467 => ((testamurref03_Same.f k t467 t400).bind fun t470 => (if t470 = true then ((spans_Union.f x1 x2).bind fun t471 => ((spans_Minus.f x0 t471).bind fun t474 => ((spans_Minus.f x0 x1).bind fun t477 => ((spans_Minus.f t477 x2).bind fun t480 => ((testamurref03_Same.f k t474 t480).bind fun t483 => (if t483 = true then ((spans_Minus.f x0 x0).bind fun t484 => (some ((t484.length : Int) == 0))) else (none))))))) else (none)))) else (none)))) else (none)))) else (none)))))))) else (none))))))) else (none))))))) else (none))))) else (none)))))
end
def testamurlaw03_SpansAlgebra.f (k : Nat) (l0 : List (S31)) (l1 : List (S31)) (l2 : List (S31)) : Option (Bool) := (testamurlaw03_sane.f k).bind fun t396 => (if t396 = true then (testamurlaw03_SpansAlgebra.j0 k l0 l1 l2) else (none))
theorem testamurlaw03_SpansAlgebra.mono_l : ∀ k, (∀ y0 y1 y2, LeO (testamurlaw03_SpansAlgebra.j0 k y0 y1 y2) (testamurlaw03_SpansAlgebra.j0 (k + 1) y0 y1 y2)) ∧ (∀ y0 y1 y2 y3, LeO (testamurlaw03_SpansAlgebra.j1 k y0 y1 y2 y3) (testamurlaw03_SpansAlgebra.j1 (k + 1) y0 y1 y2 y3)) ∧ (∀ y0 y1 y2, LeO (testamurlaw03_SpansAlgebra.j2 k y0 y1 y2) (testamurlaw03_SpansAlgebra.j2 (k + 1) y0 y1 y2))
  | 0 => ⟨fun _ _ _ r h => by simp [testamurlaw03_SpansAlgebra.j0] at h, fun _ _ _ _ r h => by simp [testamurlaw03_SpansAlgebra.j1] at h, fun _ _ _ r h => by simp [testamurlaw03_SpansAlgebra.j2] at h⟩
  | k + 1 => by
    obtain ⟨ih0, ih1, ih2⟩ := testamurlaw03_SpansAlgebra.mono_l k
    refine ⟨?_, ?_, ?_⟩
    · intro y0 y1 y2
      unfold testamurlaw03_SpansAlgebra.j0
      repeat' first
      | (with_reducible exact ih0 _ _ _)
      | (with_reducible exact ih1 _ _ _ _)
      | (with_reducible exact ih2 _ _ _)
      | (with_reducible exact testamurlaw03_sane.mono _)
      | (with_reducible exact testamurref03_Same.mono _ _ _)
      | (with_reducible exact LeO.refl _)
      | (with_reducible exact LeO.none _)
      | (with_reducible refine LeO.ite ?_ ?_)
      | (with_reducible refine LeO.bind ?_ (fun _ => ?_))
      | exact ih0 _ _ _
      | exact ih1 _ _ _ _
      | exact ih2 _ _ _
      | exact testamurlaw03_sane.mono _
      | exact testamurref03_Same.mono _ _ _
      | exact LeO.none _
      | refine LeO.ite ?_ ?_
      | refine LeO.bind ?_ (fun _ => ?_)
    · intro y0 y1 y2 y3
      unfold testamurlaw03_SpansAlgebra.j1
      repeat' first
      | (with_reducible exact ih0 _ _ _)
      | (with_reducible exact ih1 _ _ _ _)
      | (with_reducible exact ih2 _ _ _)
      | (with_reducible exact testamurlaw03_sane.mono _)
      | (with_reducible exact testamurref03_Same.mono _ _ _)
      | (with_reducible exact LeO.refl _)
      | (with_reducible exact LeO.none _)
      | (with_reducible refine LeO.ite ?_ ?_)
      | (with_reducible refine LeO.bind ?_ (fun _ => ?_))
      | exact ih0 _ _ _
      | exact ih1 _ _ _ _
      | exact ih2 _ _ _
      | exact testamurlaw03_sane.mono _
      | exact testamurref03_Same.mono _ _ _
      | exact LeO.none _
      | refine LeO.ite ?_ ?_
      | refine LeO.bind ?_ (fun _ => ?_)
    · intro y0 y1 y2
      unfold testamurlaw03_SpansAlgebra.j2
      repeat' first
      | (with_reducible exact ih0 _ _ _)
      | (with_reducible exact ih1 _ _ _ _)
      | (with_reducible exact ih2 _ _ _)
      | (with_reducible exact testamurlaw03_sane.mono _)
      | (with_reducible exact testamurref03_Same.mono _ _ _)
      | (with_reducible exact LeO.refl _)
      | (with_reducible exact LeO.none _)
      | (with_reducible refine LeO.ite ?_ ?_)
      | (with_reducible refine LeO.bind ?_ (fun _ => ?_))
      | exact ih0 _ _ _
      | exact ih1 _ _ _ _
      | exact ih2 _ _ _
      | exact testamurlaw03_sane.mono _
      | exact testamurref03_Same.mono _ _ _
      | exact LeO.none _
      | refine LeO.ite ?_ ?_
      | refine LeO.bind ?_ (fun _ => ?_)
theorem testamurlaw03_SpansAlgebra.mono : ∀ a0 a1 a2 k, LeO (testamurlaw03_SpansAlgebra.f k a0 a1 a2) (testamurlaw03_SpansAlgebra.f (k + 1) a0 a1 a2) := by
  intro a0 a1 a2 k
  obtain ⟨ih0, ih1, ih2⟩ := testamurlaw03_SpansAlgebra.mono_l k
  unfold testamurlaw03_SpansAlgebra.f
  repeat' first
      | (with_reducible exact ih0 _ _ _)
      | (with_reducible exact ih1 _ _ _ _)
      | (with_reducible exact ih2 _ _ _)
      | (with_reducible exact testamurlaw03_sane.mono _)
      | (with_reducible exact testamurref03_Same.mono _ _ _)
      | (with_reducible exact LeO.refl _)
      | (with_reducible exact LeO.none _)
      | (with_reducible refine LeO.ite ?_ ?_)
      | (with_reducible refine LeO.bind ?_ (fun _ => ?_))
      | exact ih0 _ _ _
      | exact ih1 _ _ _ _
      | exact ih2 _ _ _
      | exact testamurlaw03_sane.mono _
      | exact testamurref03_Same.mono _ _ _
      | exact LeO.none _
      | refine LeO.ite ?_ ?_
      | refine LeO.bind ?_ (fun _ => ?_)
set_option maxHeartbeats 8000000 in
set_option maxRecDepth 100000 in
theorem testamurlaw03_SpansAlgebra.calls (k : Nat) (A0 : Option Addr) (c0 : Nat) (l0 : List (S31)) (A1 : Option Addr) (c1 : Nat) (l1 : List (S31)) (A2 : Option Addr) (c2 : Nat) (l2 : List (S31)) (r : Bool) (w : World) (hr0 : Kd.C k31 w A0 l0.length l0) (hc0 : l0.length ≤ c0) (hr1 : Kd.C k31 w A1 l1.length l1) (hc1 : l1.length ≤ c1) (hr2 : Kd.C k31 w A2 l2.length l2) (hc2 : l2.length ≤ c2) (h : testamurlaw03_SpansAlgebra.f k l0 l1 l2 = some r) :
    Calls Try.prog 7 #[.slice A0 l0.length c0, .slice A1 l1.length c1, .slice A2 l2.length c2] w fun e w' => e = .returned (.bool r) ∧ Below w.heap.size w w' := by
  have HR0 := Aside0.mk hr0
  have HC0 := Aside0.mk hc0
  clear hr0 hc0
  have HR1 := Aside0.mk hr1
  have HC1 := Aside0.mk hc1
  clear hr1 hc1
  have HR2 := Aside0.mk hr2
  have HC2 := Aside0.mk hc2
  clear hr2 hc2
  have HB := Aside0.mk (Below.refl w.heap.size w)
  have H : ((testamurlaw03_sane.f k).bind fun t396 => (if t396 = true then (testamurlaw03_SpansAlgebra.j0 k l0 l1 l2) else (none))) = some r := h
  clear h
  replace H := Option.bind_eq_some_iff.mp H
  obtain ⟨t396, A40, H⟩ := H
  replace H : (if t396 = true then (testamurlaw03_SpansAlgebra.j0 k l0 l1 l2) else (none)) = some r := H
  have A4 := Aside0.mk A40
  clear A40
  have HC5 := Aside0.mk H
  clear H
  go_enter Try.func7, Try.ntmps7
  try simp only [List.append]
  go_upto_if 9 with (first | ((with_reducible refine gate_callee (f := 10) rfl ?_); refine goesL_ (some 8) rfl rfl Try.func10 (by kernel_rfl) rfl #[] rfl (by (try simp only [List.map_toArray, List.map_cons, List.map_nil]); first | done | rfl | (simp only [List.length_drop, List.length_take]; rfl)) ?_; (with_reducible refine (testamurlaw03_sane.calls k  t396 _ A4.out).mono ?_); rintro e w6 ⟨rfl, hb⟩; refine ⟨_, rfl, ?_⟩; have n0_ := Aside0.mk (below_step (by repeat (first | (with_reducible first | exact HB.out | apply below_alloc | apply pw_below_drewN | apply below_drew1) | exact HB.out)) hb); clear HB; have HB := n0_; clear n0_; (try clear hb); (try clear hb2); (try clear hk); (try clear hi)))
  (try simp only [Act.put, List.setIfInBounds_toArray, List.set_cons_zero, List.set_cons_succ])
  go_cut [] (fun wc => ∃ (kq : Nat), Aside0 (testamurlaw03_SpansAlgebra.j0 kq l0 l1 l2 = some r) ∧ Aside0 (kq ≤ k) ∧ Aside0 (Below w.heap.size w wc))
  case first =>
    have H := HC5.out
    clear HC5
    by_cases c7 : t396 = true
    · subst c7
      have H1 : (testamurlaw03_SpansAlgebra.j0 k l0 l1 l2) = some r := by rw [if_pos rfl] at H; exact H
      clear H
      have H := H1
      clear H1
      have H' := Aside0.mk H
      clear H
      go_wp2
      go_meet
      case rel => exact ⟨_, H', ⟨by first | omega | exact Nat.le_refl _⟩, ⟨by repeat (first | (with_reducible first | exact HB.out | apply below_alloc | apply pw_below_drewN | apply below_drew1) | exact HB.out)⟩⟩
    · replace c7 := Bool.eq_false_iff.mpr c7
      subst c7
      have H1 : (none) = some r := by rw [if_neg (show ¬ (false = true) by decide)] at H; exact H
      clear H
      have H := H1
      clear H1
      exact absurd H (by simp)
  case rest =>
    clear HC5
    try clear c1
    try clear c2
    try clear p2
    try clear c7
    obtain ⟨kq, HA, HJ4, HB⟩ := hcut
    cases kq with
    | zero => exact absurd HA.out (by simp [testamurlaw03_SpansAlgebra.j0])
    | succ kj4 =>
      have H := HA.out
      clear HA
      simp only [testamurlaw03_SpansAlgebra.j0] at H
      have HC8 := Aside0.mk H
      clear H
      go_upto_region 3 with (fail)
      go_cut [22] (fun v22 wc => ∃ (kq : Nat) (x22_7 : Bool), v22 = .bool x22_7 ∧ Aside0 (testamurlaw03_SpansAlgebra.j1 kq l0 l1 l2 x22_7 = some r) ∧ Aside0 (kq ≤ kj4) ∧ Aside0 (Below w.heap.size w wc))
      case first =>
        have H := HC8.out
        clear HC8
        replace H := Option.bind_eq_some_iff.mp H
        obtain ⟨t397, A90, H⟩ := H
        replace H : (if t397 = true then ((testamurref03_Few.f l1).bind fun t398 => (if t398 = true then ((testamurref03_Few.f l2).bind fun t399 => (testamurlaw03_SpansAlgebra.j1 kj4 l0 l1 l2 (!t399))) else (testamurlaw03_SpansAlgebra.j1 kj4 l0 l1 l2 true))) else (testamurlaw03_SpansAlgebra.j1 kj4 l0 l1 l2 true)) = some r := H
        have A9 := Aside0.mk A90
        clear A90
        by_cases c10 : t397 = true
        · subst c10
          have H1 : ((testamurref03_Few.f l1).bind fun t398 => (if t398 = true then ((testamurref03_Few.f l2).bind fun t399 => (testamurlaw03_SpansAlgebra.j1 kj4 l0 l1 l2 (!t399))) else (testamurlaw03_SpansAlgebra.j1 kj4 l0 l1 l2 true))) = some r := by rw [if_pos rfl] at H; exact H
          clear H
          have H := H1
          clear H1
          replace H := Option.bind_eq_some_iff.mp H
          obtain ⟨t398, A110, H⟩ := H
          replace H : (if t398 = true then ((testamurref03_Few.f l2).bind fun t399 => (testamurlaw03_SpansAlgebra.j1 kj4 l0 l1 l2 (!t399))) else (testamurlaw03_SpansAlgebra.j1 kj4 l0 l1 l2 true)) = some r := H
          have A11 := Aside0.mk A110
          clear A110
          by_cases c12 : t398 = true
          · subst c12
            have H1 : ((testamurref03_Few.f l2).bind fun t399 => (testamurlaw03_SpansAlgebra.j1 kj4 l0 l1 l2 (!t399))) = some r := by rw [if_pos rfl] at H; exact H
            clear H
            have H := H1
            clear H1
            replace H := Option.bind_eq_some_iff.mp H
            obtain ⟨t399, A130, H⟩ := H
            replace H : (testamurlaw03_SpansAlgebra.j1 kj4 l0 l1 l2 (!t399)) = some r := H
            have A13 := Aside0.mk A130
            clear A130
            have H' := Aside0.mk H
            clear H
            go_wp2_with ((with_reducible refine gate_callee (f := 11) rfl ?_); refine Aside0.out (p := _) ?_)
            refine ⟨?_⟩
            refine goesL_ (some 11) rfl rfl Try.func11 (by kernel_rfl) rfl #[.slice A0 l0.length c0] rfl (by (try simp only [List.map_toArray, List.map_cons, List.map_nil]); first | done | rfl | (simp only [List.length_drop, List.length_take]; rfl)) ?_
            (with_reducible refine (testamurref03_Few.calls _ _ l0 true _ ?side1 ?side2 A9.out).mono ?_)
            (case side1 => repeat (first | exact (Kd.C_below HR0.out HB.out) | (with_reducible refine Kd.C_alloc ?_ _) | (with_reducible refine Kd.C_drewN ?_ _) | (with_reducible refine Kd.C_drew ?_)))
            (case side2 => exact HC0.out)
            rintro e w' ⟨rfl, ⟨nd, rfl⟩⟩
            refine ⟨_, rfl, ?_⟩
            go_wp2_with (go_at_call 11; (with_reducible refine (testamurref03_Few.calls _ _ l1 true _ ?side1 ?side2 A11.out).mono ?_); (case side1 => repeat (first | exact (Kd.C_below HR1.out (by repeat (first | (with_reducible first | exact HB.out | apply below_alloc | apply pw_below_drewN | apply below_drew1) | exact HB.out))) | (with_reducible refine Kd.C_alloc ?_ _) | (with_reducible refine Kd.C_drewN ?_ _) | (with_reducible refine Kd.C_drew ?_))); (case side2 => exact HC1.out); refine Aside0.out (p := _) ?_)
            refine ⟨?_⟩
            rintro e w' ⟨rfl, ⟨nd, rfl⟩⟩
            go_wp2_with (go_at_call 11; (with_reducible refine (testamurref03_Few.calls _ _ l2 t399 _ ?side1 ?side2 A13.out).mono ?_); (case side1 => repeat (first | exact (Kd.C_below HR2.out (by repeat (first | (with_reducible first | exact HB.out | apply below_alloc | apply pw_below_drewN | apply below_drew1) | exact HB.out))) | (with_reducible refine Kd.C_alloc ?_ _) | (with_reducible refine Kd.C_drewN ?_ _) | (with_reducible refine Kd.C_drew ?_))); (case side2 => exact HC2.out); refine Aside0.out (p := _) ?_)
            refine ⟨?_⟩
            rintro e w' ⟨rfl, ⟨nd, rfl⟩⟩
            go_wp2
            go_meet
            case rel => exact ⟨_, (!t399), (by first | rfl | (simp; done) | (simp [*]; done)), H', ⟨by have := HJ4.out; first | omega | exact Nat.le_refl _⟩, ⟨by repeat (first | (with_reducible first | exact HB.out | apply below_alloc | apply pw_below_drewN | apply below_drew1) | exact HB.out)⟩⟩
          · replace c12 := Bool.eq_false_iff.mpr c12
            subst c12
            have H1 : (testamurlaw03_SpansAlgebra.j1 kj4 l0 l1 l2 true) = some r := by rw [if_neg (show ¬ (false = true) by decide)] at H; exact H
            clear H
            have H := H1
            clear H1
            have H' := Aside0.mk H
            clear H
            go_wp2_with ((with_reducible refine gate_callee (f := 11) rfl ?_); refine Aside0.out (p := _) ?_)
            refine ⟨?_⟩
            refine goesL_ (some 11) rfl rfl Try.func11 (by kernel_rfl) rfl #[.slice A0 l0.length c0] rfl (by (try simp only [List.map_toArray, List.map_cons, List.map_nil]); first | done | rfl | (simp only [List.length_drop, List.length_take]; rfl)) ?_
            (with_reducible refine (testamurref03_Few.calls _ _ l0 true _ ?side1 ?side2 A9.out).mono ?_)
            (case side1 => repeat (first | exact (Kd.C_below HR0.out HB.out) | (with_reducible refine Kd.C_alloc ?_ _) | (with_reducible refine Kd.C_drewN ?_ _) | (with_reducible refine Kd.C_drew ?_)))
            (case side2 => exact HC0.out)
            rintro e w' ⟨rfl, ⟨nd, rfl⟩⟩
            refine ⟨_, rfl, ?_⟩
            go_wp2_with (go_at_call 11; (with_reducible refine (testamurref03_Few.calls _ _ l1 false _ ?side1 ?side2 A11.out).mono ?_); (case side1 => repeat (first | exact (Kd.C_below HR1.out (by repeat (first | (with_reducible first | exact HB.out | apply below_alloc | apply pw_below_drewN | apply below_drew1) | exact HB.out))) | (with_reducible refine Kd.C_alloc ?_ _) | (with_reducible refine Kd.C_drewN ?_ _) | (with_reducible refine Kd.C_drew ?_))); (case side2 => exact HC1.out); refine Aside0.out (p := _) ?_)
            refine ⟨?_⟩
            rintro e w' ⟨rfl, ⟨nd, rfl⟩⟩
            go_wp2
            go_meet
            case rel => exact ⟨_, (true), (by first | rfl | (simp; done) | (simp [*]; done)), H', ⟨by have := HJ4.out; first | omega | exact Nat.le_refl _⟩, ⟨by repeat (first | (with_reducible first | exact HB.out | apply below_alloc | apply pw_below_drewN | apply below_drew1) | exact HB.out)⟩⟩
        · replace c10 := Bool.eq_false_iff.mpr c10
          subst c10
          have H1 : (testamurlaw03_SpansAlgebra.j1 kj4 l0 l1 l2 true) = some r := by rw [if_neg (show ¬ (false = true) by decide)] at H; exact H
          clear H
          have H := H1
          clear H1
          have H' := Aside0.mk H
          clear H
          go_wp2_with ((with_reducible refine gate_callee (f := 11) rfl ?_); refine Aside0.out (p := _) ?_)
          refine ⟨?_⟩
          refine goesL_ (some 11) rfl rfl Try.func11 (by kernel_rfl) rfl #[.slice A0 l0.length c0] rfl (by (try simp only [List.map_toArray, List.map_cons, List.map_nil]); first | done | rfl | (simp only [List.length_drop, List.length_take]; rfl)) ?_
          (with_reducible refine (testamurref03_Few.calls _ _ l0 false _ ?side1 ?side2 A9.out).mono ?_)
          (case side1 => repeat (first | exact (Kd.C_below HR0.out HB.out) | (with_reducible refine Kd.C_alloc ?_ _) | (with_reducible refine Kd.C_drewN ?_ _) | (with_reducible refine Kd.C_drew ?_)))
          (case side2 => exact HC0.out)
          rintro e w' ⟨rfl, ⟨nd, rfl⟩⟩
          refine ⟨_, rfl, ?_⟩
          go_wp2
          go_meet
          case rel => exact ⟨_, (true), (by first | rfl | (simp; done) | (simp [*]; done)), H', ⟨by have := HJ4.out; first | omega | exact Nat.le_refl _⟩, ⟨by repeat (first | (with_reducible first | exact HB.out | apply below_alloc | apply pw_below_drewN | apply below_drew1) | exact HB.out)⟩⟩
      case rest =>
        clear HC8
        try clear c1
        try clear c2
        try clear p2
        try clear c7
        try clear c10
        try clear c11
        try clear c12
        try clear p2
        obtain ⟨kq, x22_7, rfl, HA, HJ7, HB⟩ := hcut
        cases kq with
        | zero => exact absurd HA.out (by simp [testamurlaw03_SpansAlgebra.j1])
        | succ kj7 =>
          have H := HA.out
          clear HA
          simp only [testamurlaw03_SpansAlgebra.j1] at H
          have HC14 := Aside0.mk H
          clear H
          go_upto_if 22 with (fail)
          go_cut [] (fun wc => ∃ (kq : Nat), Aside0 (testamurlaw03_SpansAlgebra.j2 kq l0 l1 l2 = some r) ∧ Aside0 (kq ≤ kj7) ∧ Aside0 (Below w.heap.size w wc))
          case first =>
            have H := HC14.out
            clear HC14
            by_cases c15 : x22_7 = true
            · subst c15
              have H1 : (some true) = some r := by rw [if_pos rfl] at H; exact H
              clear H
              have H := H1
              clear H1
              obtain rfl := Option.some.inj H
              go_wp2
              go_ret
              exact ⟨by first | rfl | (simp [errW_none, errW_some] <;> rfl) | (simp [*, errW_none, errW_some] <;> rfl), by repeat (first | (with_reducible first | exact HB.out | apply below_alloc | apply pw_below_drewN | apply below_drew1) | exact HB.out)⟩
            · replace c15 := Bool.eq_false_iff.mpr c15
              subst c15
              have H1 : (testamurlaw03_SpansAlgebra.j2 kj7 l0 l1 l2) = some r := by rw [if_neg (show ¬ (false = true) by decide)] at H; exact H
              clear H
              have H := H1
              clear H1
              have H' := Aside0.mk H
              clear H
              go_wp2
              go_meet
              case rel => exact ⟨_, H', ⟨by have := HJ4.out; have := HJ7.out; first | omega | exact Nat.le_refl _⟩, ⟨by repeat (first | (with_reducible first | exact HB.out | apply below_alloc | apply pw_below_drewN | apply below_drew1) | exact HB.out)⟩⟩
          case rest =>
            clear HC14
            try clear c1
            try clear c2
            try clear p2
            try clear c7
            try clear c10
            try clear c11
            try clear c12
            try clear c15
            try clear p2
            obtain ⟨kq, HA, HJ13, HB⟩ := hcut
            cases kq with
            | zero => exact absurd HA.out (by simp [testamurlaw03_SpansAlgebra.j2])
            | succ kj13 =>
              have H := HA.out
              clear HA
              simp only [testamurlaw03_SpansAlgebra.j2] at H
              replace H := Option.bind_eq_some_iff.mp H
              obtain ⟨t400, A160, H⟩ := H
              replace H : ((spans_Union.f l0 l1).bind fun t403 => ((spans_Union.f l1 l0).bind fun t406 => ((testamurref03_Same.f kj13 t403 t406).bind fun t409 => (if t409 = true then ((spans_Meet.f l0 l1).bind fun t410 => ((spans_Meet.f l1 l0).bind fun t413 => ((testamurref03_Same.f kj13 t410 t413).bind fun t416 => (if t416 = true then ((spans_Union.f l0 l1).bind fun t417 => ((spans_Union.f t417 l2).bind fun t420 => ((spans_Union.f l1 l2).bind fun t423 => ((spans_Union.f l0 t423).bind fun t426 => ((testamurref03_Same.f kj13 t420 t426).bind fun t429 => (if t429 = true then ((spans_Meet.f l0 l1).bind fun t430 => ((spans_Meet.f t430 l2).bind fun t433 => ((spans_Meet.f l1 l2).bind fun t436 => ((spans_Meet.f l0 t436).bind fun t439 => ((testamurref03_Same.f kj13 t433 t439).bind fun t442 => (if t442 = true then ((spans_Union.f l1 l2).bind fun t443 => ((spans_Meet.f l0 t443).bind fun t446 => ((spans_Meet.f l0 l1).bind fun t449 => ((spans_Meet.f l0 l2).bind fun t452 => ((spans_Union.f t449 t452).bind fun t455 => ((testamurref03_Same.f kj13 t446 t455).bind fun t458 => (if t458 = true then ((spans_Union.f l0 l0).bind fun t459 => ((testamurref03_Same.f kj13 t459 t400).bind fun t462 => (if t462 = true then ((spans_Meet.f l0 l0).bind fun t463 => ((testamurref03_Same.f kj13 t463 t400).bind fun t466 => (if t466 = true then ((spans_Normal.f t400).bind fun t467 => ((testamurref03_Same.f kj13 t467 t400).bind fun t470 => (if t470 = true then ((spans_Union.f l1 l2).bind fun t471 => ((spans_Minus.f l0 t471).bind fun t474 => ((spans_Minus.f l0 l1).bind fun t477 => ((spans_Minus.f t477 l2).bind fun t480 => ((testamurref03_Same.f kj13 t474 t480).bind fun t483 => (if t483 = true then ((spans_Minus.f l0 l0).bind fun t484 => (some ((t484.length : Int) == 0))) else (none))))))) else (none)))) else (none)))) else (none)))) else (none)))))))) else (none))))))) else (none))))))) else (none))))) else (none))))) = some r := H
              have A16 := Aside0.mk A160
              clear A160
              replace H := Option.bind_eq_some_iff.mp H
              obtain ⟨t403, A170, H⟩ := H
              replace H : ((spans_Union.f l1 l0).bind fun t406 => ((testamurref03_Same.f kj13 t403 t406).bind fun t409 => (if t409 = true then ((spans_Meet.f l0 l1).bind fun t410 => ((spans_Meet.f l1 l0).bind fun t413 => ((testamurref03_Same.f kj13 t410 t413).bind fun t416 => (if t416 = true then ((spans_Union.f l0 l1).bind fun t417 => ((spans_Union.f t417 l2).bind fun t420 => ((spans_Union.f l1 l2).bind fun t423 => ((spans_Union.f l0 t423).bind fun t426 => ((testamurref03_Same.f kj13 t420 t426).bind fun t429 => (if t429 = true then ((spans_Meet.f l0 l1).bind fun t430 => ((spans_Meet.f t430 l2).bind fun t433 => ((spans_Meet.f l1 l2).bind fun t436 => ((spans_Meet.f l0 t436).bind fun t439 => ((testamurref03_Same.f kj13 t433 t439).bind fun t442 => (if t442 = true then ((spans_Union.f l1 l2).bind fun t443 => ((spans_Meet.f l0 t443).bind fun t446 => ((spans_Meet.f l0 l1).bind fun t449 => ((spans_Meet.f l0 l2).bind fun t452 => ((spans_Union.f t449 t452).bind fun t455 => ((testamurref03_Same.f kj13 t446 t455).bind fun t458 => (if t458 = true then ((spans_Union.f l0 l0).bind fun t459 => ((testamurref03_Same.f kj13 t459 t400).bind fun t462 => (if t462 = true then ((spans_Meet.f l0 l0).bind fun t463 => ((testamurref03_Same.f kj13 t463 t400).bind fun t466 => (if t466 = true then ((spans_Normal.f t400).bind fun t467 => ((testamurref03_Same.f kj13 t467 t400).bind fun t470 => (if t470 = true then ((spans_Union.f l1 l2).bind fun t471 => ((spans_Minus.f l0 t471).bind fun t474 => ((spans_Minus.f l0 l1).bind fun t477 => ((spans_Minus.f t477 l2).bind fun t480 => ((testamurref03_Same.f kj13 t474 t480).bind fun t483 => (if t483 = true then ((spans_Minus.f l0 l0).bind fun t484 => (some ((t484.length : Int) == 0))) else (none))))))) else (none)))) else (none)))) else (none)))) else (none)))))))) else (none))))))) else (none))))))) else (none))))) else (none)))) = some r := H
              have A17 := Aside0.mk A170
              clear A170
              replace H := Option.bind_eq_some_iff.mp H
              obtain ⟨t406, A180, H⟩ := H
              replace H : ((testamurref03_Same.f kj13 t403 t406).bind fun t409 => (if t409 = true then ((spans_Meet.f l0 l1).bind fun t410 => ((spans_Meet.f l1 l0).bind fun t413 => ((testamurref03_Same.f kj13 t410 t413).bind fun t416 => (if t416 = true then ((spans_Union.f l0 l1).bind fun t417 => ((spans_Union.f t417 l2).bind fun t420 => ((spans_Union.f l1 l2).bind fun t423 => ((spans_Union.f l0 t423).bind fun t426 => ((testamurref03_Same.f kj13 t420 t426).bind fun t429 => (if t429 = true then ((spans_Meet.f l0 l1).bind fun t430 => ((spans_Meet.f t430 l2).bind fun t433 => ((spans_Meet.f l1 l2).bind fun t436 => ((spans_Meet.f l0 t436).bind fun t439 => ((testamurref03_Same.f kj13 t433 t439).bind fun t442 => (if t442 = true then ((spans_Union.f l1 l2).bind fun t443 => ((spans_Meet.f l0 t443).bind fun t446 => ((spans_Meet.f l0 l1).bind fun t449 => ((spans_Meet.f l0 l2).bind fun t452 => ((spans_Union.f t449 t452).bind fun t455 => ((testamurref03_Same.f kj13 t446 t455).bind fun t458 => (if t458 = true then ((spans_Union.f l0 l0).bind fun t459 => ((testamurref03_Same.f kj13 t459 t400).bind fun t462 => (if t462 = true then ((spans_Meet.f l0 l0).bind fun t463 => ((testamurref03_Same.f kj13 t463 t400).bind fun t466 => (if t466 = true then ((spans_Normal.f t400).bind fun t467 => ((testamurref03_Same.f kj13 t467 t400).bind fun t470 => (if t470 = true then ((spans_Union.f l1 l2).bind fun t471 => ((spans_Minus.f l0 t471).bind fun t474 => ((spans_Minus.f l0 l1).bind fun t477 => ((spans_Minus.f t477 l2).bind fun t480 => ((testamurref03_Same.f kj13 t474 t480).bind fun t483 => (if t483 = true then ((spans_Minus.f l0 l0).bind fun t484 => (some ((t484.length : Int) == 0))) else (none))))))) else (none)))) else (none)))) else (none)))) else (none)))))))) else (none))))))) else (none))))))) else (none))))) else (none))) = some r := H
              have A18 := Aside0.mk A180
              clear A180
              replace H := Option.bind_eq_some_iff.mp H
              obtain ⟨t409, A190, H⟩ := H
              replace H : (if t409 = true then ((spans_Meet.f l0 l1).bind fun t410 => ((spans_Meet.f l1 l0).bind fun t413 => ((testamurref03_Same.f kj13 t410 t413).bind fun t416 => (if t416 = true then ((spans_Union.f l0 l1).bind fun t417 => ((spans_Union.f t417 l2).bind fun t420 => ((spans_Union.f l1 l2).bind fun t423 => ((spans_Union.f l0 t423).bind fun t426 => ((testamurref03_Same.f kj13 t420 t426).bind fun t429 => (if t429 = true then ((spans_Meet.f l0 l1).bind fun t430 => ((spans_Meet.f t430 l2).bind fun t433 => ((spans_Meet.f l1 l2).bind fun t436 => ((spans_Meet.f l0 t436).bind fun t439 => ((testamurref03_Same.f kj13 t433 t439).bind fun t442 => (if t442 = true then ((spans_Union.f l1 l2).bind fun t443 => ((spans_Meet.f l0 t443).bind fun t446 => ((spans_Meet.f l0 l1).bind fun t449 => ((spans_Meet.f l0 l2).bind fun t452 => ((spans_Union.f t449 t452).bind fun t455 => ((testamurref03_Same.f kj13 t446 t455).bind fun t458 => (if t458 = true then ((spans_Union.f l0 l0).bind fun t459 => ((testamurref03_Same.f kj13 t459 t400).bind fun t462 => (if t462 = true then ((spans_Meet.f l0 l0).bind fun t463 => ((testamurref03_Same.f kj13 t463 t400).bind fun t466 => (if t466 = true then ((spans_Normal.f t400).bind fun t467 => ((testamurref03_Same.f kj13 t467 t400).bind fun t470 => (if t470 = true then ((spans_Union.f l1 l2).bind fun t471 => ((spans_Minus.f l0 t471).bind fun t474 => ((spans_Minus.f l0 l1).bind fun t477 => ((spans_Minus.f t477 l2).bind fun t480 => ((testamurref03_Same.f kj13 t474 t480).bind fun t483 => (if t483 = true then ((spans_Minus.f l0 l0).bind fun t484 => (some ((t484.length : Int) == 0))) else (none))))))) else (none)))) else (none)))) else (none)))) else (none)))))))) else (none))))))) else (none))))))) else (none))))) else (none)) = some r := H
              have A19 := Aside0.mk A190
              clear A190
              by_cases c20 : t409 = true
              · subst c20
                have H1 : ((spans_Meet.f l0 l1).bind fun t410 => ((spans_Meet.f l1 l0).bind fun t413 => ((testamurref03_Same.f kj13 t410 t413).bind fun t416 => (if t416 = true then ((spans_Union.f l0 l1).bind fun t417 => ((spans_Union.f t417 l2).bind fun t420 => ((spans_Union.f l1 l2).bind fun t423 => ((spans_Union.f l0 t423).bind fun t426 => ((testamurref03_Same.f kj13 t420 t426).bind fun t429 => (if t429 = true then ((spans_Meet.f l0 l1).bind fun t430 => ((spans_Meet.f t430 l2).bind fun t433 => ((spans_Meet.f l1 l2).bind fun t436 => ((spans_Meet.f l0 t436).bind fun t439 => ((testamurref03_Same.f kj13 t433 t439).bind fun t442 => (if t442 = true then ((spans_Union.f l1 l2).bind fun t443 => ((spans_Meet.f l0 t443).bind fun t446 => ((spans_Meet.f l0 l1).bind fun t449 => ((spans_Meet.f l0 l2).bind fun t452 => ((spans_Union.f t449 t452).bind fun t455 => ((testamurref03_Same.f kj13 t446 t455).bind fun t458 => (if t458 = true then ((spans_Union.f l0 l0).bind fun t459 => ((testamurref03_Same.f kj13 t459 t400).bind fun t462 => (if t462 = true then ((spans_Meet.f l0 l0).bind fun t463 => ((testamurref03_Same.f kj13 t463 t400).bind fun t466 => (if t466 = true then ((spans_Normal.f t400).bind fun t467 => ((testamurref03_Same.f kj13 t467 t400).bind fun t470 => (if t470 = true then ((spans_Union.f l1 l2).bind fun t471 => ((spans_Minus.f l0 t471).bind fun t474 => ((spans_Minus.f l0 l1).bind fun t477 => ((spans_Minus.f t477 l2).bind fun t480 => ((testamurref03_Same.f kj13 t474 t480).bind fun t483 => (if t483 = true then ((spans_Minus.f l0 l0).bind fun t484 => (some ((t484.length : Int) == 0))) else (none))))))) else (none)))) else (none)))) else (none)))) else (none)))))))) else (none))))))) else (none))))))) else (none))))) = some r := by rw [if_pos rfl] at H; exact H
                clear H
                have H := H1
                clear H1
                replace H := Option.bind_eq_some_iff.mp H
                obtain ⟨t410, A210, H⟩ := H
                replace H : ((spans_Meet.f l1 l0).bind fun t413 => ((testamurref03_Same.f kj13 t410 t413).bind fun t416 => (if t416 = true then ((spans_Union.f l0 l1).bind fun t417 => ((spans_Union.f t417 l2).bind fun t420 => ((spans_Union.f l1 l2).bind fun t423 => ((spans_Union.f l0 t423).bind fun t426 => ((testamurref03_Same.f kj13 t420 t426).bind fun t429 => (if t429 = true then ((spans_Meet.f l0 l1).bind fun t430 => ((spans_Meet.f t430 l2).bind fun t433 => ((spans_Meet.f l1 l2).bind fun t436 => ((spans_Meet.f l0 t436).bind fun t439 => ((testamurref03_Same.f kj13 t433 t439).bind fun t442 => (if t442 = true then ((spans_Union.f l1 l2).bind fun t443 => ((spans_Meet.f l0 t443).bind fun t446 => ((spans_Meet.f l0 l1).bind fun t449 => ((spans_Meet.f l0 l2).bind fun t452 => ((spans_Union.f t449 t452).bind fun t455 => ((testamurref03_Same.f kj13 t446 t455).bind fun t458 => (if t458 = true then ((spans_Union.f l0 l0).bind fun t459 => ((testamurref03_Same.f kj13 t459 t400).bind fun t462 => (if t462 = true then ((spans_Meet.f l0 l0).bind fun t463 => ((testamurref03_Same.f kj13 t463 t400).bind fun t466 => (if t466 = true then ((spans_Normal.f t400).bind fun t467 => ((testamurref03_Same.f kj13 t467 t400).bind fun t470 => (if t470 = true then ((spans_Union.f l1 l2).bind fun t471 => ((spans_Minus.f l0 t471).bind fun t474 => ((spans_Minus.f l0 l1).bind fun t477 => ((spans_Minus.f t477 l2).bind fun t480 => ((testamurref03_Same.f kj13 t474 t480).bind fun t483 => (if t483 = true then ((spans_Minus.f l0 l0).bind fun t484 => (some ((t484.length : Int) == 0))) else (none))))))) else (none)))) else (none)))) else (none)))) else (none)))))))) else (none))))))) else (none))))))) else (none)))) = some r := H
                have A21 := Aside0.mk A210
                clear A210
                replace H := Option.bind_eq_some_iff.mp H
                obtain ⟨t413, A220, H⟩ := H
                replace H : ((testamurref03_Same.f kj13 t410 t413).bind fun t416 => (if t416 = true then ((spans_Union.f l0 l1).bind fun t417 => ((spans_Union.f t417 l2).bind fun t420 => ((spans_Union.f l1 l2).bind fun t423 => ((spans_Union.f l0 t423).bind fun t426 => ((testamurref03_Same.f kj13 t420 t426).bind fun t429 => (if t429 = true then ((spans_Meet.f l0 l1).bind fun t430 => ((spans_Meet.f t430 l2).bind fun t433 => ((spans_Meet.f l1 l2).bind fun t436 => ((spans_Meet.f l0 t436).bind fun t439 => ((testamurref03_Same.f kj13 t433 t439).bind fun t442 => (if t442 = true then ((spans_Union.f l1 l2).bind fun t443 => ((spans_Meet.f l0 t443).bind fun t446 => ((spans_Meet.f l0 l1).bind fun t449 => ((spans_Meet.f l0 l2).bind fun t452 => ((spans_Union.f t449 t452).bind fun t455 => ((testamurref03_Same.f kj13 t446 t455).bind fun t458 => (if t458 = true then ((spans_Union.f l0 l0).bind fun t459 => ((testamurref03_Same.f kj13 t459 t400).bind fun t462 => (if t462 = true then ((spans_Meet.f l0 l0).bind fun t463 => ((testamurref03_Same.f kj13 t463 t400).bind fun t466 => (if t466 = true then ((spans_Normal.f t400).bind fun t467 => ((testamurref03_Same.f kj13 t467 t400).bind fun t470 => (if t470 = true then ((spans_Union.f l1 l2).bind fun t471 => ((spans_Minus.f l0 t471).bind fun t474 => ((spans_Minus.f l0 l1).bind fun t477 => ((spans_Minus.f t477 l2).bind fun t480 => ((testamurref03_Same.f kj13 t474 t480).bind fun t483 => (if t483 = true then ((spans_Minus.f l0 l0).bind fun t484 => (some ((t484.length : Int) == 0))) else (none))))))) else (none)))) else (none)))) else (none)))) else (none)))))))) else (none))))))) else (none))))))) else (none))) = some r := H
                have A22 := Aside0.mk A220
                clear A220
                replace H := Option.bind_eq_some_iff.mp H
                obtain ⟨t416, A230, H⟩ := H
                replace H : (if t416 = true then ((spans_Union.f l0 l1).bind fun t417 => ((spans_Union.f t417 l2).bind fun t420 => ((spans_Union.f l1 l2).bind fun t423 => ((spans_Union.f l0 t423).bind fun t426 => ((testamurref03_Same.f kj13 t420 t426).bind fun t429 => (if t429 = true then ((spans_Meet.f l0 l1).bind fun t430 => ((spans_Meet.f t430 l2).bind fun t433 => ((spans_Meet.f l1 l2).bind fun t436 => ((spans_Meet.f l0 t436).bind fun t439 => ((testamurref03_Same.f kj13 t433 t439).bind fun t442 => (if t442 = true then ((spans_Union.f l1 l2).bind fun t443 => ((spans_Meet.f l0 t443).bind fun t446 => ((spans_Meet.f l0 l1).bind fun t449 => ((spans_Meet.f l0 l2).bind fun t452 => ((spans_Union.f t449 t452).bind fun t455 => ((testamurref03_Same.f kj13 t446 t455).bind fun t458 => (if t458 = true then ((spans_Union.f l0 l0).bind fun t459 => ((testamurref03_Same.f kj13 t459 t400).bind fun t462 => (if t462 = true then ((spans_Meet.f l0 l0).bind fun t463 => ((testamurref03_Same.f kj13 t463 t400).bind fun t466 => (if t466 = true then ((spans_Normal.f t400).bind fun t467 => ((testamurref03_Same.f kj13 t467 t400).bind fun t470 => (if t470 = true then ((spans_Union.f l1 l2).bind fun t471 => ((spans_Minus.f l0 t471).bind fun t474 => ((spans_Minus.f l0 l1).bind fun t477 => ((spans_Minus.f t477 l2).bind fun t480 => ((testamurref03_Same.f kj13 t474 t480).bind fun t483 => (if t483 = true then ((spans_Minus.f l0 l0).bind fun t484 => (some ((t484.length : Int) == 0))) else (none))))))) else (none)))) else (none)))) else (none)))) else (none)))))))) else (none))))))) else (none))))))) else (none)) = some r := H
                have A23 := Aside0.mk A230
                clear A230
                by_cases c24 : t416 = true
                · subst c24
                  have H1 : ((spans_Union.f l0 l1).bind fun t417 => ((spans_Union.f t417 l2).bind fun t420 => ((spans_Union.f l1 l2).bind fun t423 => ((spans_Union.f l0 t423).bind fun t426 => ((testamurref03_Same.f kj13 t420 t426).bind fun t429 => (if t429 = true then ((spans_Meet.f l0 l1).bind fun t430 => ((spans_Meet.f t430 l2).bind fun t433 => ((spans_Meet.f l1 l2).bind fun t436 => ((spans_Meet.f l0 t436).bind fun t439 => ((testamurref03_Same.f kj13 t433 t439).bind fun t442 => (if t442 = true then ((spans_Union.f l1 l2).bind fun t443 => ((spans_Meet.f l0 t443).bind fun t446 => ((spans_Meet.f l0 l1).bind fun t449 => ((spans_Meet.f l0 l2).bind fun t452 => ((spans_Union.f t449 t452).bind fun t455 => ((testamurref03_Same.f kj13 t446 t455).bind fun t458 => (if t458 = true then ((spans_Union.f l0 l0).bind fun t459 => ((testamurref03_Same.f kj13 t459 t400).bind fun t462 => (if t462 = true then ((spans_Meet.f l0 l0).bind fun t463 => ((testamurref03_Same.f kj13 t463 t400).bind fun t466 => (if t466 = true then ((spans_Normal.f t400).bind fun t467 => ((testamurref03_Same.f kj13 t467 t400).bind fun t470 => (if t470 = true then ((spans_Union.f l1 l2).bind fun t471 => ((spans_Minus.f l0 t471).bind fun t474 => ((spans_Minus.f l0 l1).bind fun t477 => ((spans_Minus.f t477 l2).bind fun t480 => ((testamurref03_Same.f kj13 t474 t480).bind fun t483 => (if t483 = true then ((spans_Minus.f l0 l0).bind fun t484 => (some ((t484.length : Int) == 0))) else (none))))))) else (none)))) else (none)))) else (none)))) else (none)))))))) else (none))))))) else (none))))))) = some r := by rw [if_pos rfl] at H; exact H
                  clear H
                  have H := H1
                  clear H1
                  replace H := Option.bind_eq_some_iff.mp H
                  obtain ⟨t417, A250, H⟩ := H
                  replace H : ((spans_Union.f t417 l2).bind fun t420 => ((spans_Union.f l1 l2).bind fun t423 => ((spans_Union.f l0 t423).bind fun t426 => ((testamurref03_Same.f kj13 t420 t426).bind fun t429 => (if t429 = true then ((spans_Meet.f l0 l1).bind fun t430 => ((spans_Meet.f t430 l2).bind fun t433 => ((spans_Meet.f l1 l2).bind fun t436 => ((spans_Meet.f l0 t436).bind fun t439 => ((testamurref03_Same.f kj13 t433 t439).bind fun t442 => (if t442 = true then ((spans_Union.f l1 l2).bind fun t443 => ((spans_Meet.f l0 t443).bind fun t446 => ((spans_Meet.f l0 l1).bind fun t449 => ((spans_Meet.f l0 l2).bind fun t452 => ((spans_Union.f t449 t452).bind fun t455 => ((testamurref03_Same.f kj13 t446 t455).bind fun t458 => (if t458 = true then ((spans_Union.f l0 l0).bind fun t459 => ((testamurref03_Same.f kj13 t459 t400).bind fun t462 => (if t462 = true then ((spans_Meet.f l0 l0).bind fun t463 => ((testamurref03_Same.f kj13 t463 t400).bind fun t466 => (if t466 = true then ((spans_Normal.f t400).bind fun t467 => ((testamurref03_Same.f kj13 t467 t400).bind fun t470 => (if t470 = true then ((spans_Union.f l1 l2).bind fun t471 => ((spans_Minus.f l0 t471).bind fun t474 => ((spans_Minus.f l0 l1).bind fun t477 => ((spans_Minus.f t477 l2).bind fun t480 => ((testamurref03_Same.f kj13 t474 t480).bind fun t483 => (if t483 = true then ((spans_Minus.f l0 l0).bind fun t484 => (some ((t484.length : Int) == 0))) else (none))))))) else (none)))) else (none)))) else (none)))) else (none)))))))) else (none))))))) else (none)))))) = some r := H
                  have A25 := Aside0.mk A250
                  clear A250
                  replace H := Option.bind_eq_some_iff.mp H
                  obtain ⟨t420, A260, H⟩ := H
                  replace H : ((spans_Union.f l1 l2).bind fun t423 => ((spans_Union.f l0 t423).bind fun t426 => ((testamurref03_Same.f kj13 t420 t426).bind fun t429 => (if t429 = true then ((spans_Meet.f l0 l1).bind fun t430 => ((spans_Meet.f t430 l2).bind fun t433 => ((spans_Meet.f l1 l2).bind fun t436 => ((spans_Meet.f l0 t436).bind fun t439 => ((testamurref03_Same.f kj13 t433 t439).bind fun t442 => (if t442 = true then ((spans_Union.f l1 l2).bind fun t443 => ((spans_Meet.f l0 t443).bind fun t446 => ((spans_Meet.f l0 l1).bind fun t449 => ((spans_Meet.f l0 l2).bind fun t452 => ((spans_Union.f t449 t452).bind fun t455 => ((testamurref03_Same.f kj13 t446 t455).bind fun t458 => (if t458 = true then ((spans_Union.f l0 l0).bind fun t459 => ((testamurref03_Same.f kj13 t459 t400).bind fun t462 => (if t462 = true then ((spans_Meet.f l0 l0).bind fun t463 => ((testamurref03_Same.f kj13 t463 t400).bind fun t466 => (if t466 = true then ((spans_Normal.f t400).bind fun t467 => ((testamurref03_Same.f kj13 t467 t400).bind fun t470 => (if t470 = true then ((spans_Union.f l1 l2).bind fun t471 => ((spans_Minus.f l0 t471).bind fun t474 => ((spans_Minus.f l0 l1).bind fun t477 => ((spans_Minus.f t477 l2).bind fun t480 => ((testamurref03_Same.f kj13 t474 t480).bind fun t483 => (if t483 = true then ((spans_Minus.f l0 l0).bind fun t484 => (some ((t484.length : Int) == 0))) else (none))))))) else (none)))) else (none)))) else (none)))) else (none)))))))) else (none))))))) else (none))))) = some r := H
                  have A26 := Aside0.mk A260
                  clear A260
                  replace H := Option.bind_eq_some_iff.mp H
                  obtain ⟨t423, A270, H⟩ := H
                  replace H : ((spans_Union.f l0 t423).bind fun t426 => ((testamurref03_Same.f kj13 t420 t426).bind fun t429 => (if t429 = true then ((spans_Meet.f l0 l1).bind fun t430 => ((spans_Meet.f t430 l2).bind fun t433 => ((spans_Meet.f l1 l2).bind fun t436 => ((spans_Meet.f l0 t436).bind fun t439 => ((testamurref03_Same.f kj13 t433 t439).bind fun t442 => (if t442 = true then ((spans_Union.f l1 l2).bind fun t443 => ((spans_Meet.f l0 t443).bind fun t446 => ((spans_Meet.f l0 l1).bind fun t449 => ((spans_Meet.f l0 l2).bind fun t452 => ((spans_Union.f t449 t452).bind fun t455 => ((testamurref03_Same.f kj13 t446 t455).bind fun t458 => (if t458 = true then ((spans_Union.f l0 l0).bind fun t459 => ((testamurref03_Same.f kj13 t459 t400).bind fun t462 => (if t462 = true then ((spans_Meet.f l0 l0).bind fun t463 => ((testamurref03_Same.f kj13 t463 t400).bind fun t466 => (if t466 = true then ((spans_Normal.f t400).bind fun t467 => ((testamurref03_Same.f kj13 t467 t400).bind fun t470 => (if t470 = true then ((spans_Union.f l1 l2).bind fun t471 => ((spans_Minus.f l0 t471).bind fun t474 => ((spans_Minus.f l0 l1).bind fun t477 => ((spans_Minus.f t477 l2).bind fun t480 => ((testamurref03_Same.f kj13 t474 t480).bind fun t483 => (if t483 = true then ((spans_Minus.f l0 l0).bind fun t484 => (some ((t484.length : Int) == 0))) else (none))))))) else (none)))) else (none)))) else (none)))) else (none)))))))) else (none))))))) else (none)))) = some r := H
                  have A27 := Aside0.mk A270
                  clear A270
                  replace H := Option.bind_eq_some_iff.mp H
                  obtain ⟨t426, A280, H⟩ := H
                  replace H : ((testamurref03_Same.f kj13 t420 t426).bind fun t429 => (if t429 = true then ((spans_Meet.f l0 l1).bind fun t430 => ((spans_Meet.f t430 l2).bind fun t433 => ((spans_Meet.f l1 l2).bind fun t436 => ((spans_Meet.f l0 t436).bind fun t439 => ((testamurref03_Same.f kj13 t433 t439).bind fun t442 => (if t442 = true then ((spans_Union.f l1 l2).bind fun t443 => ((spans_Meet.f l0 t443).bind fun t446 => ((spans_Meet.f l0 l1).bind fun t449 => ((spans_Meet.f l0 l2).bind fun t452 => ((spans_Union.f t449 t452).bind fun t455 => ((testamurref03_Same.f kj13 t446 t455).bind fun t458 => (if t458 = true then ((spans_Union.f l0 l0).bind fun t459 => ((testamurref03_Same.f kj13 t459 t400).bind fun t462 => (if t462 = true then ((spans_Meet.f l0 l0).bind fun t463 => ((testamurref03_Same.f kj13 t463 t400).bind fun t466 => (if t466 = true then ((spans_Normal.f t400).bind fun t467 => ((testamurref03_Same.f kj13 t467 t400).bind fun t470 => (if t470 = true then ((spans_Union.f l1 l2).bind fun t471 => ((spans_Minus.f l0 t471).bind fun t474 => ((spans_Minus.f l0 l1).bind fun t477 => ((spans_Minus.f t477 l2).bind fun t480 => ((testamurref03_Same.f kj13 t474 t480).bind fun t483 => (if t483 = true then ((spans_Minus.f l0 l0).bind fun t484 => (some ((t484.length : Int) == 0))) else (none))))))) else (none)))) else (none)))) else (none)))) else (none)))))))) else (none))))))) else (none))) = some r := H
                  have A28 := Aside0.mk A280
                  clear A280
                  replace H := Option.bind_eq_some_iff.mp H
                  obtain ⟨t429, A290, H⟩ := H
                  replace H : (if t429 = true then ((spans_Meet.f l0 l1).bind fun t430 => ((spans_Meet.f t430 l2).bind fun t433 => ((spans_Meet.f l1 l2).bind fun t436 => ((spans_Meet.f l0 t436).bind fun t439 => ((testamurref03_Same.f kj13 t433 t439).bind fun t442 => (if t442 = true then ((spans_Union.f l1 l2).bind fun t443 => ((spans_Meet.f l0 t443).bind fun t446 => ((spans_Meet.f l0 l1).bind fun t449 => ((spans_Meet.f l0 l2).bind fun t452 => ((spans_Union.f t449 t452).bind fun t455 => ((testamurref03_Same.f kj13 t446 t455).bind fun t458 => (if t458 = true then ((spans_Union.f l0 l0).bind fun t459 => ((testamurref03_Same.f kj13 t459 t400).bind fun t462 => (if t462 = true then ((spans_Meet.f l0 l0).bind fun t463 => ((testamurref03_Same.f kj13 t463 t400).bind fun t466 => (if t466 = true then ((spans_Normal.f t400).bind fun t467 => ((testamurref03_Same.f kj13 t467 t400).bind fun t470 => (if t470 = true then ((spans_Union.f l1 l2).bind fun t471 => ((spans_Minus.f l0 t471).bind fun t474 => ((spans_Minus.f l0 l1).bind fun t477 => ((spans_Minus.f t477 l2).bind fun t480 => ((testamurref03_Same.f kj13 t474 t480).bind fun t483 => (if t483 = true then ((spans_Minus.f l0 l0).bind fun t484 => (some ((t484.length : Int) == 0))) else (none))))))) else (none)))) else (none)))) else (none)))) else (none)))))))) else (none))))))) else (none)) = some r := H
                  have A29 := Aside0.mk A290
                  clear A290
                  by_cases c30 : t429 = true
                  · subst c30
                    have H1 : ((spans_Meet.f l0 l1).bind fun t430 => ((spans_Meet.f t430 l2).bind fun t433 => ((spans_Meet.f l1 l2).bind fun t436 => ((spans_Meet.f l0 t436).bind fun t439 => ((testamurref03_Same.f kj13 t433 t439).bind fun t442 => (if t442 = true then ((spans_Union.f l1 l2).bind fun t443 => ((spans_Meet.f l0 t443).bind fun t446 => ((spans_Meet.f l0 l1).bind fun t449 => ((spans_Meet.f l0 l2).bind fun t452 => ((spans_Union.f t449 t452).bind fun t455 => ((testamurref03_Same.f kj13 t446 t455).bind fun t458 => (if t458 = true then ((spans_Union.f l0 l0).bind fun t459 => ((testamurref03_Same.f kj13 t459 t400).bind fun t462 => (if t462 = true then ((spans_Meet.f l0 l0).bind fun t463 => ((testamurref03_Same.f kj13 t463 t400).bind fun t466 => (if t466 = true then ((spans_Normal.f t400).bind fun t467 => ((testamurref03_Same.f kj13 t467 t400).bind fun t470 => (if t470 = true then ((spans_Union.f l1 l2).bind fun t471 => ((spans_Minus.f l0 t471).bind fun t474 => ((spans_Minus.f l0 l1).bind fun t477 => ((spans_Minus.f t477 l2).bind fun t480 => ((testamurref03_Same.f kj13 t474 t480).bind fun t483 => (if t483 = true then ((spans_Minus.f l0 l0).bind fun t484 => (some ((t484.length : Int) == 0))) else (none))))))) else (none)))) else (none)))) else (none)))) else (none)))))))) else (none))))))) = some r := by rw [if_pos rfl] at H; exact H
                    clear H
                    have H := H1
                    clear H1
                    replace H := Option.bind_eq_some_iff.mp H
                    obtain ⟨t430, A310, H⟩ := H
                    replace H : ((spans_Meet.f t430 l2).bind fun t433 => ((spans_Meet.f l1 l2).bind fun t436 => ((spans_Meet.f l0 t436).bind fun t439 => ((testamurref03_Same.f kj13 t433 t439).bind fun t442 => (if t442 = true then ((spans_Union.f l1 l2).bind fun t443 => ((spans_Meet.f l0 t443).bind fun t446 => ((spans_Meet.f l0 l1).bind fun t449 => ((spans_Meet.f l0 l2).bind fun t452 => ((spans_Union.f t449 t452).bind fun t455 => ((testamurref03_Same.f kj13 t446 t455).bind fun t458 => (if t458 = true then ((spans_Union.f l0 l0).bind fun t459 => ((testamurref03_Same.f kj13 t459 t400).bind fun t462 => (if t462 = true then ((spans_Meet.f l0 l0).bind fun t463 => ((testamurref03_Same.f kj13 t463 t400).bind fun t466 => (if t466 = true then ((spans_Normal.f t400).bind fun t467 => ((testamurref03_Same.f kj13 t467 t400).bind fun t470 => (if t470 = true then ((spans_Union.f l1 l2).bind fun t471 => ((spans_Minus.f l0 t471).bind fun t474 => ((spans_Minus.f l0 l1).bind fun t477 => ((spans_Minus.f t477 l2).bind fun t480 => ((testamurref03_Same.f kj13 t474 t480).bind fun t483 => (if t483 = true then ((spans_Minus.f l0 l0).bind fun t484 => (some ((t484.length : Int) == 0))) else (none))))))) else (none)))) else (none)))) else (none)))) else (none)))))))) else (none)))))) = some r := H
                    have A31 := Aside0.mk A310
                    clear A310
                    replace H := Option.bind_eq_some_iff.mp H
                    obtain ⟨t433, A320, H⟩ := H
                    replace H : ((spans_Meet.f l1 l2).bind fun t436 => ((spans_Meet.f l0 t436).bind fun t439 => ((testamurref03_Same.f kj13 t433 t439).bind fun t442 => (if t442 = true then ((spans_Union.f l1 l2).bind fun t443 => ((spans_Meet.f l0 t443).bind fun t446 => ((spans_Meet.f l0 l1).bind fun t449 => ((spans_Meet.f l0 l2).bind fun t452 => ((spans_Union.f t449 t452).bind fun t455 => ((testamurref03_Same.f kj13 t446 t455).bind fun t458 => (if t458 = true then ((spans_Union.f l0 l0).bind fun t459 => ((testamurref03_Same.f kj13 t459 t400).bind fun t462 => (if t462 = true then ((spans_Meet.f l0 l0).bind fun t463 => ((testamurref03_Same.f kj13 t463 t400).bind fun t466 => (if t466 = true then ((spans_Normal.f t400).bind fun t467 => ((testamurref03_Same.f kj13 t467 t400).bind fun t470 => (if t470 = true then ((spans_Union.f l1 l2).bind fun t471 => ((spans_Minus.f l0 t471).bind fun t474 => ((spans_Minus.f l0 l1).bind fun t477 => ((spans_Minus.f t477 l2).bind fun t480 => ((testamurref03_Same.f kj13 t474 t480).bind fun t483 => (if t483 = true then ((spans_Minus.f l0 l0).bind fun t484 => (some ((t484.length : Int) == 0))) else (none))))))) else (none)))) else (none)))) else (none)))) else (none)))))))) else (none))))) = some r := H
                    have A32 := Aside0.mk A320
                    clear A320
                    replace H := Option.bind_eq_some_iff.mp H
                    obtain ⟨t436, A330, H⟩ := H
                    replace H : ((spans_Meet.f l0 t436).bind fun t439 => ((testamurref03_Same.f kj13 t433 t439).bind fun t442 => (if t442 = true then ((spans_Union.f l1 l2).bind fun t443 => ((spans_Meet.f l0 t443).bind fun t446 => ((spans_Meet.f l0 l1).bind fun t449 => ((spans_Meet.f l0 l2).bind fun t452 => ((spans_Union.f t449 t452).bind fun t455 => ((testamurref03_Same.f kj13 t446 t455).bind fun t458 => (if t458 = true then ((spans_Union.f l0 l0).bind fun t459 => ((testamurref03_Same.f kj13 t459 t400).bind fun t462 => (if t462 = true then ((spans_Meet.f l0 l0).bind fun t463 => ((testamurref03_Same.f kj13 t463 t400).bind fun t466 => (if t466 = true then ((spans_Normal.f t400).bind fun t467 => ((testamurref03_Same.f kj13 t467 t400).bind fun t470 => (if t470 = true then ((spans_Union.f l1 l2).bind fun t471 => ((spans_Minus.f l0 t471).bind fun t474 => ((spans_Minus.f l0 l1).bind fun t477 => ((spans_Minus.f t477 l2).bind fun t480 => ((testamurref03_Same.f kj13 t474 t480).bind fun t483 => (if t483 = true then ((spans_Minus.f l0 l0).bind fun t484 => (some ((t484.length : Int) == 0))) else (none))))))) else (none)))) else (none)))) else (none)))) else (none)))))))) else (none)))) = some r := H
                    have A33 := Aside0.mk A330
                    clear A330
                    replace H := Option.bind_eq_some_iff.mp H
                    obtain ⟨t439, A340, H⟩ := H
                    replace H : ((testamurref03_Same.f kj13 t433 t439).bind fun t442 => (if t442 = true then ((spans_Union.f l1 l2).bind fun t443 => ((spans_Meet.f l0 t443).bind fun t446 => ((spans_Meet.f l0 l1).bind fun t449 => ((spans_Meet.f l0 l2).bind fun t452 => ((spans_Union.f t449 t452).bind fun t455 => ((testamurref03_Same.f kj13 t446 t455).bind fun t458 => (if t458 = true then ((spans_Union.f l0 l0).bind fun t459 => ((testamurref03_Same.f kj13 t459 t400).bind fun t462 => (if t462 = true then ((spans_Meet.f l0 l0).bind fun t463 => ((testamurref03_Same.f kj13 t463 t400).bind fun t466 => (if t466 = true then ((spans_Normal.f t400).bind fun t467 => ((testamurref03_Same.f kj13 t467 t400).bind fun t470 => (if t470 = true then ((spans_Union.f l1 l2).bind fun t471 => ((spans_Minus.f l0 t471).bind fun t474 => ((spans_Minus.f l0 l1).bind fun t477 => ((spans_Minus.f t477 l2).bind fun t480 => ((testamurref03_Same.f kj13 t474 t480).bind fun t483 => (if t483 = true then ((spans_Minus.f l0 l0).bind fun t484 => (some ((t484.length : Int) == 0))) else (none))))))) else (none)))) else (none)))) else (none)))) else (none)))))))) else (none))) = some r := H
                    have A34 := Aside0.mk A340
                    clear A340
                    replace H := Option.bind_eq_some_iff.mp H
                    obtain ⟨t442, A350, H⟩ := H
                    replace H : (if t442 = true then ((spans_Union.f l1 l2).bind fun t443 => ((spans_Meet.f l0 t443).bind fun t446 => ((spans_Meet.f l0 l1).bind fun t449 => ((spans_Meet.f l0 l2).bind fun t452 => ((spans_Union.f t449 t452).bind fun t455 => ((testamurref03_Same.f kj13 t446 t455).bind fun t458 => (if t458 = true then ((spans_Union.f l0 l0).bind fun t459 => ((testamurref03_Same.f kj13 t459 t400).bind fun t462 => (if t462 = true then ((spans_Meet.f l0 l0).bind fun t463 => ((testamurref03_Same.f kj13 t463 t400).bind fun t466 => (if t466 = true then ((spans_Normal.f t400).bind fun t467 => ((testamurref03_Same.f kj13 t467 t400).bind fun t470 => (if t470 = true then ((spans_Union.f l1 l2).bind fun t471 => ((spans_Minus.f l0 t471).bind fun t474 => ((spans_Minus.f l0 l1).bind fun t477 => ((spans_Minus.f t477 l2).bind fun t480 => ((testamurref03_Same.f kj13 t474 t480).bind fun t483 => (if t483 = true then ((spans_Minus.f l0 l0).bind fun t484 => (some ((t484.length : Int) == 0))) else (none))))))) else (none)))) else (none)))) else (none)))) else (none)))))))) else (none)) = some r := H
                    have A35 := Aside0.mk A350
                    clear A350
                    by_cases c36 : t442 = true
                    · subst c36
                      have H1 : ((spans_Union.f l1 l2).bind fun t443 => ((spans_Meet.f l0 t443).bind fun t446 => ((spans_Meet.f l0 l1).bind fun t449 => ((spans_Meet.f l0 l2).bind fun t452 => ((spans_Union.f t449 t452).bind fun t455 => ((testamurref03_Same.f kj13 t446 t455).bind fun t458 => (if t458 = true then ((spans_Union.f l0 l0).bind fun t459 => ((testamurref03_Same.f kj13 t459 t400).bind fun t462 => (if t462 = true then ((spans_Meet.f l0 l0).bind fun t463 => ((testamurref03_Same.f kj13 t463 t400).bind fun t466 => (if t466 = true then ((spans_Normal.f t400).bind fun t467 => ((testamurref03_Same.f kj13 t467 t400).bind fun t470 => (if t470 = true then ((spans_Union.f l1 l2).bind fun t471 => ((spans_Minus.f l0 t471).bind fun t474 => ((spans_Minus.f l0 l1).bind fun t477 => ((spans_Minus.f t477 l2).bind fun t480 => ((testamurref03_Same.f kj13 t474 t480).bind fun t483 => (if t483 = true then ((spans_Minus.f l0 l0).bind fun t484 => (some ((t484.length : Int) == 0))) else (none))))))) else (none)))) else (none)))) else (none)))) else (none)))))))) = some r := by rw [if_pos rfl] at H; exact H
                      clear H
                      have H := H1
                      clear H1
                      replace H := Option.bind_eq_some_iff.mp H
                      obtain ⟨t443, A370, H⟩ := H
                      replace H : ((spans_Meet.f l0 t443).bind fun t446 => ((spans_Meet.f l0 l1).bind fun t449 => ((spans_Meet.f l0 l2).bind fun t452 => ((spans_Union.f t449 t452).bind fun t455 => ((testamurref03_Same.f kj13 t446 t455).bind fun t458 => (if t458 = true then ((spans_Union.f l0 l0).bind fun t459 => ((testamurref03_Same.f kj13 t459 t400).bind fun t462 => (if t462 = true then ((spans_Meet.f l0 l0).bind fun t463 => ((testamurref03_Same.f kj13 t463 t400).bind fun t466 => (if t466 = true then ((spans_Normal.f t400).bind fun t467 => ((testamurref03_Same.f kj13 t467 t400).bind fun t470 => (if t470 = true then ((spans_Union.f l1 l2).bind fun t471 => ((spans_Minus.f l0 t471).bind fun t474 => ((spans_Minus.f l0 l1).bind fun t477 => ((spans_Minus.f t477 l2).bind fun t480 => ((testamurref03_Same.f kj13 t474 t480).bind fun t483 => (if t483 = true then ((spans_Minus.f l0 l0).bind fun t484 => (some ((t484.length : Int) == 0))) else (none))))))) else (none)))) else (none)))) else (none)))) else (none))))))) = some r := H
                      have A37 := Aside0.mk A370
                      clear A370
                      replace H := Option.bind_eq_some_iff.mp H
                      obtain ⟨t446, A380, H⟩ := H
                      replace H : ((spans_Meet.f l0 l1).bind fun t449 => ((spans_Meet.f l0 l2).bind fun t452 => ((spans_Union.f t449 t452).bind fun t455 => ((testamurref03_Same.f kj13 t446 t455).bind fun t458 => (if t458 = true then ((spans_Union.f l0 l0).bind fun t459 => ((testamurref03_Same.f kj13 t459 t400).bind fun t462 => (if t462 = true then ((spans_Meet.f l0 l0).bind fun t463 => ((testamurref03_Same.f kj13 t463 t400).bind fun t466 => (if t466 = true then ((spans_Normal.f t400).bind fun t467 => ((testamurref03_Same.f kj13 t467 t400).bind fun t470 => (if t470 = true then ((spans_Union.f l1 l2).bind fun t471 => ((spans_Minus.f l0 t471).bind fun t474 => ((spans_Minus.f l0 l1).bind fun t477 => ((spans_Minus.f t477 l2).bind fun t480 => ((testamurref03_Same.f kj13 t474 t480).bind fun t483 => (if t483 = true then ((spans_Minus.f l0 l0).bind fun t484 => (some ((t484.length : Int) == 0))) else (none))))))) else (none)))) else (none)))) else (none)))) else (none)))))) = some r := H
                      have A38 := Aside0.mk A380
                      clear A380
                      replace H := Option.bind_eq_some_iff.mp H
                      obtain ⟨t449, A390, H⟩ := H
                      replace H : ((spans_Meet.f l0 l2).bind fun t452 => ((spans_Union.f t449 t452).bind fun t455 => ((testamurref03_Same.f kj13 t446 t455).bind fun t458 => (if t458 = true then ((spans_Union.f l0 l0).bind fun t459 => ((testamurref03_Same.f kj13 t459 t400).bind fun t462 => (if t462 = true then ((spans_Meet.f l0 l0).bind fun t463 => ((testamurref03_Same.f kj13 t463 t400).bind fun t466 => (if t466 = true then ((spans_Normal.f t400).bind fun t467 => ((testamurref03_Same.f kj13 t467 t400).bind fun t470 => (if t470 = true then ((spans_Union.f l1 l2).bind fun t471 => ((spans_Minus.f l0 t471).bind fun t474 => ((spans_Minus.f l0 l1).bind fun t477 => ((spans_Minus.f t477 l2).bind fun t480 => ((testamurref03_Same.f kj13 t474 t480).bind fun t483 => (if t483 = true then ((spans_Minus.f l0 l0).bind fun t484 => (some ((t484.length : Int) == 0))) else (none))))))) else (none)))) else (none)))) else (none)))) else (none))))) = some r := H
                      have A39 := Aside0.mk A390
                      clear A390
                      replace H := Option.bind_eq_some_iff.mp H
                      obtain ⟨t452, A400, H⟩ := H
                      replace H : ((spans_Union.f t449 t452).bind fun t455 => ((testamurref03_Same.f kj13 t446 t455).bind fun t458 => (if t458 = true then ((spans_Union.f l0 l0).bind fun t459 => ((testamurref03_Same.f kj13 t459 t400).bind fun t462 => (if t462 = true then ((spans_Meet.f l0 l0).bind fun t463 => ((testamurref03_Same.f kj13 t463 t400).bind fun t466 => (if t466 = true then ((spans_Normal.f t400).bind fun t467 => ((testamurref03_Same.f kj13 t467 t400).bind fun t470 => (if t470 = true then ((spans_Union.f l1 l2).bind fun t471 => ((spans_Minus.f l0 t471).bind fun t474 => ((spans_Minus.f l0 l1).bind fun t477 => ((spans_Minus.f t477 l2).bind fun t480 => ((testamurref03_Same.f kj13 t474 t480).bind fun t483 => (if t483 = true then ((spans_Minus.f l0 l0).bind fun t484 => (some ((t484.length : Int) == 0))) else (none))))))) else (none)))) else (none)))) else (none)))) else (none)))) = some r := H
                      have A40 := Aside0.mk A400
                      clear A400
                      replace H := Option.bind_eq_some_iff.mp H
                      obtain ⟨t455, A410, H⟩ := H
                      replace H : ((testamurref03_Same.f kj13 t446 t455).bind fun t458 => (if t458 = true then ((spans_Union.f l0 l0).bind fun t459 => ((testamurref03_Same.f kj13 t459 t400).bind fun t462 => (if t462 = true then ((spans_Meet.f l0 l0).bind fun t463 => ((testamurref03_Same.f kj13 t463 t400).bind fun t466 => (if t466 = true then ((spans_Normal.f t400).bind fun t467 => ((testamurref03_Same.f kj13 t467 t400).bind fun t470 => (if t470 = true then ((spans_Union.f l1 l2).bind fun t471 => ((spans_Minus.f l0 t471).bind fun t474 => ((spans_Minus.f l0 l1).bind fun t477 => ((spans_Minus.f t477 l2).bind fun t480 => ((testamurref03_Same.f kj13 t474 t480).bind fun t483 => (if t483 = true then ((spans_Minus.f l0 l0).bind fun t484 => (some ((t484.length : Int) == 0))) else (none))))))) else (none)))) else (none)))) else (none)))) else (none))) = some r := H
                      have A41 := Aside0.mk A410
                      clear A410
                      replace H := Option.bind_eq_some_iff.mp H
                      obtain ⟨t458, A420, H⟩ := H
                      replace H : (if t458 = true then ((spans_Union.f l0 l0).bind fun t459 => ((testamurref03_Same.f kj13 t459 t400).bind fun t462 => (if t462 = true then ((spans_Meet.f l0 l0).bind fun t463 => ((testamurref03_Same.f kj13 t463 t400).bind fun t466 => (if t466 = true then ((spans_Normal.f t400).bind fun t467 => ((testamurref03_Same.f kj13 t467 t400).bind fun t470 => (if t470 = true then ((spans_Union.f l1 l2).bind fun t471 => ((spans_Minus.f l0 t471).bind fun t474 => ((spans_Minus.f l0 l1).bind fun t477 => ((spans_Minus.f t477 l2).bind fun t480 => ((testamurref03_Same.f kj13 t474 t480).bind fun t483 => (if t483 = true then ((spans_Minus.f l0 l0).bind fun t484 => (some ((t484.length : Int) == 0))) else (none))))))) else (none)))) else (none)))) else (none)))) else (none)) = some r := H
                      have A42 := Aside0.mk A420
                      clear A420
                      by_cases c43 : t458 = true
                      · subst c43
                        have H1 : ((spans_Union.f l0 l0).bind fun t459 => ((testamurref03_Same.f kj13 t459 t400).bind fun t462 => (if t462 = true then ((spans_Meet.f l0 l0).bind fun t463 => ((testamurref03_Same.f kj13 t463 t400).bind fun t466 => (if t466 = true then ((spans_Normal.f t400).bind fun t467 => ((testamurref03_Same.f kj13 t467 t400).bind fun t470 => (if t470 = true then ((spans_Union.f l1 l2).bind fun t471 => ((spans_Minus.f l0 t471).bind fun t474 => ((spans_Minus.f l0 l1).bind fun t477 => ((spans_Minus.f t477 l2).bind fun t480 => ((testamurref03_Same.f kj13 t474 t480).bind fun t483 => (if t483 = true then ((spans_Minus.f l0 l0).bind fun t484 => (some ((t484.length : Int) == 0))) else (none))))))) else (none)))) else (none)))) else (none)))) = some r := by rw [if_pos rfl] at H; exact H
                        clear H
                        have H := H1
                        clear H1
                        replace H := Option.bind_eq_some_iff.mp H
                        obtain ⟨t459, A440, H⟩ := H
                        replace H : ((testamurref03_Same.f kj13 t459 t400).bind fun t462 => (if t462 = true then ((spans_Meet.f l0 l0).bind fun t463 => ((testamurref03_Same.f kj13 t463 t400).bind fun t466 => (if t466 = true then ((spans_Normal.f t400).bind fun t467 => ((testamurref03_Same.f kj13 t467 t400).bind fun t470 => (if t470 = true then ((spans_Union.f l1 l2).bind fun t471 => ((spans_Minus.f l0 t471).bind fun t474 => ((spans_Minus.f l0 l1).bind fun t477 => ((spans_Minus.f t477 l2).bind fun t480 => ((testamurref03_Same.f kj13 t474 t480).bind fun t483 => (if t483 = true then ((spans_Minus.f l0 l0).bind fun t484 => (some ((t484.length : Int) == 0))) else (none))))))) else (none)))) else (none)))) else (none))) = some r := H
                        have A44 := Aside0.mk A440
                        clear A440
                        replace H := Option.bind_eq_some_iff.mp H
                        obtain ⟨t462, A450, H⟩ := H
                        replace H : (if t462 = true then ((spans_Meet.f l0 l0).bind fun t463 => ((testamurref03_Same.f kj13 t463 t400).bind fun t466 => (if t466 = true then ((spans_Normal.f t400).bind fun t467 => ((testamurref03_Same.f kj13 t467 t400).bind fun t470 => (if t470 = true then ((spans_Union.f l1 l2).bind fun t471 => ((spans_Minus.f l0 t471).bind fun t474 => ((spans_Minus.f l0 l1).bind fun t477 => ((spans_Minus.f t477 l2).bind fun t480 => ((testamurref03_Same.f kj13 t474 t480).bind fun t483 => (if t483 = true then ((spans_Minus.f l0 l0).bind fun t484 => (some ((t484.length : Int) == 0))) else (none))))))) else (none)))) else (none)))) else (none)) = some r := H
                        have A45 := Aside0.mk A450
                        clear A450
                        by_cases c46 : t462 = true
                        · subst c46
                          have H1 : ((spans_Meet.f l0 l0).bind fun t463 => ((testamurref03_Same.f kj13 t463 t400).bind fun t466 => (if t466 = true then ((spans_Normal.f t400).bind fun t467 => ((testamurref03_Same.f kj13 t467 t400).bind fun t470 => (if t470 = true then ((spans_Union.f l1 l2).bind fun t471 => ((spans_Minus.f l0 t471).bind fun t474 => ((spans_Minus.f l0 l1).bind fun t477 => ((spans_Minus.f t477 l2).bind fun t480 => ((testamurref03_Same.f kj13 t474 t480).bind fun t483 => (if t483 = true then ((spans_Minus.f l0 l0).bind fun t484 => (some ((t484.length : Int) == 0))) else (none))))))) else (none)))) else (none)))) = some r := by rw [if_pos rfl] at H; exact H
                          clear H
                          have H := H1
                          clear H1
                          replace H := Option.bind_eq_some_iff.mp H
                          obtain ⟨t463, A470, H⟩ := H
                          replace H : ((testamurref03_Same.f kj13 t463 t400).bind fun t466 => (if t466 = true then ((spans_Normal.f t400).bind fun t467 => ((testamurref03_Same.f kj13 t467 t400).bind fun t470 => (if t470 = true then ((spans_Union.f l1 l2).bind fun t471 => ((spans_Minus.f l0 t471).bind fun t474 => ((spans_Minus.f l0 l1).bind fun t477 => ((spans_Minus.f t477 l2).bind fun t480 => ((testamurref03_Same.f kj13 t474 t480).bind fun t483 => (if t483 = true then ((spans_Minus.f l0 l0).bind fun t484 => (some ((t484.length : Int) == 0))) else (none))))))) else (none)))) else (none))) = some r := H
                          have A47 := Aside0.mk A470
                          clear A470
                          replace H := Option.bind_eq_some_iff.mp H
                          obtain ⟨t466, A480, H⟩ := H
                          replace H : (if t466 = true then ((spans_Normal.f t400).bind fun t467 => ((testamurref03_Same.f kj13 t467 t400).bind fun t470 => (if t470 = true then ((spans_Union.f l1 l2).bind fun t471 => ((spans_Minus.f l0 t471).bind fun t474 => ((spans_Minus.f l0 l1).bind fun t477 => ((spans_Minus.f t477 l2).bind fun t480 => ((testamurref03_Same.f kj13 t474 t480).bind fun t483 => (if t483 = true then ((spans_Minus.f l0 l0).bind fun t484 => (some ((t484.length : Int) == 0))) else (none))))))) else (none)))) else (none)) = some r := H
                          have A48 := Aside0.mk A480
                          clear A480
                          by_cases c49 : t466 = true
                          · subst c49
                            have H1 : ((spans_Normal.f t400).bind fun t467 => ((testamurref03_Same.f kj13 t467 t400).bind fun t470 => (if t470 = true then ((spans_Union.f l1 l2).bind fun t471 => ((spans_Minus.f l0 t471).bind fun t474 => ((spans_Minus.f l0 l1).bind fun t477 => ((spans_Minus.f t477 l2).bind fun t480 => ((testamurref03_Same.f kj13 t474 t480).bind fun t483 => (if t483 = true then ((spans_Minus.f l0 l0).bind fun t484 => (some ((t484.length : Int) == 0))) else (none))))))) else (none)))) = some r := by rw [if_pos rfl] at H; exact H
                            clear H
                            have H := H1
                            clear H1
                            replace H := Option.bind_eq_some_iff.mp H
                            obtain ⟨t467, A500, H⟩ := H
                            replace H : ((testamurref03_Same.f kj13 t467 t400).bind fun t470 => (if t470 = true then ((spans_Union.f l1 l2).bind fun t471 => ((spans_Minus.f l0 t471).bind fun t474 => ((spans_Minus.f l0 l1).bind fun t477 => ((spans_Minus.f t477 l2).bind fun t480 => ((testamurref03_Same.f kj13 t474 t480).bind fun t483 => (if t483 = true then ((spans_Minus.f l0 l0).bind fun t484 => (some ((t484.length : Int) == 0))) else (none))))))) else (none))) = some r := H
                            have A50 := Aside0.mk A500
                            clear A500
                            replace H := Option.bind_eq_some_iff.mp H
                            obtain ⟨t470, A510, H⟩ := H
                            replace H : (if t470 = true then ((spans_Union.f l1 l2).bind fun t471 => ((spans_Minus.f l0 t471).bind fun t474 => ((spans_Minus.f l0 l1).bind fun t477 => ((spans_Minus.f t477 l2).bind fun t480 => ((testamurref03_Same.f kj13 t474 t480).bind fun t483 => (if t483 = true then ((spans_Minus.f l0 l0).bind fun t484 => (some ((t484.length : Int) == 0))) else (none))))))) else (none)) = some r := H
                            have A51 := Aside0.mk A510
                            clear A510
                            by_cases c52 : t470 = true
                            · subst c52
                              have H1 : ((spans_Union.f l1 l2).bind fun t471 => ((spans_Minus.f l0 t471).bind fun t474 => ((spans_Minus.f l0 l1).bind fun t477 => ((spans_Minus.f t477 l2).bind fun t480 => ((testamurref03_Same.f kj13 t474 t480).bind fun t483 => (if t483 = true then ((spans_Minus.f l0 l0).bind fun t484 => (some ((t484.length : Int) == 0))) else (none))))))) = some r := by rw [if_pos rfl] at H; exact H
                              clear H
                              have H := H1
                              clear H1
                              replace H := Option.bind_eq_some_iff.mp H
                              obtain ⟨t471, A530, H⟩ := H
                              replace H : ((spans_Minus.f l0 t471).bind fun t474 => ((spans_Minus.f l0 l1).bind fun t477 => ((spans_Minus.f t477 l2).bind fun t480 => ((testamurref03_Same.f kj13 t474 t480).bind fun t483 => (if t483 = true then ((spans_Minus.f l0 l0).bind fun t484 => (some ((t484.length : Int) == 0))) else (none)))))) = some r := H
                              have A53 := Aside0.mk A530
                              clear A530
                              replace H := Option.bind_eq_some_iff.mp H
                              obtain ⟨t474, A540, H⟩ := H
                              replace H : ((spans_Minus.f l0 l1).bind fun t477 => ((spans_Minus.f t477 l2).bind fun t480 => ((testamurref03_Same.f kj13 t474 t480).bind fun t483 => (if t483 = true then ((spans_Minus.f l0 l0).bind fun t484 => (some ((t484.length : Int) == 0))) else (none))))) = some r := H
                              have A54 := Aside0.mk A540
                              clear A540
                              replace H := Option.bind_eq_some_iff.mp H
                              obtain ⟨t477, A550, H⟩ := H
                              replace H : ((spans_Minus.f t477 l2).bind fun t480 => ((testamurref03_Same.f kj13 t474 t480).bind fun t483 => (if t483 = true then ((spans_Minus.f l0 l0).bind fun t484 => (some ((t484.length : Int) == 0))) else (none)))) = some r := H
                              have A55 := Aside0.mk A550
                              clear A550
                              replace H := Option.bind_eq_some_iff.mp H
                              obtain ⟨t480, A560, H⟩ := H
                              replace H : ((testamurref03_Same.f kj13 t474 t480).bind fun t483 => (if t483 = true then ((spans_Minus.f l0 l0).bind fun t484 => (some ((t484.length : Int) == 0))) else (none))) = some r := H
                              have A56 := Aside0.mk A560
                              clear A560
                              replace H := Option.bind_eq_some_iff.mp H
                              obtain ⟨t483, A570, H⟩ := H
                              replace H : (if t483 = true then ((spans_Minus.f l0 l0).bind fun t484 => (some ((t484.length : Int) == 0))) else (none)) = some r := H
                              have A57 := Aside0.mk A570
                              clear A570
                              by_cases c58 : t483 = true
                              · subst c58
                                have H1 : ((spans_Minus.f l0 l0).bind fun t484 => (some ((t484.length : Int) == 0))) = some r := by rw [if_pos rfl] at H; exact H
                                clear H
                                have H := H1
                                clear H1
                                replace H := Option.bind_eq_some_iff.mp H
                                obtain ⟨t484, A590, H⟩ := H
                                replace H : (some ((t484.length : Int) == 0)) = some r := H
                                have A59 := Aside0.mk A590
                                clear A590
                                obtain rfl := Option.some.inj H
                                go_wp2_with ((with_reducible refine gate_callee (f := 15) rfl ?_); refine Aside0.out (p := _) ?_)
                                refine ⟨?_⟩
                                refine goesL_ (some 24) rfl rfl Try.func15 (by kernel_rfl) rfl #[.slice A0 l0.length c0] rfl (by (try simp only [List.map_toArray, List.map_cons, List.map_nil]); first | done | rfl | (simp only [List.length_drop, List.length_take]; rfl)) ?_
                                (with_reducible refine (spans_Normal.calls _ _ l0 t400 _ ?side1 ?side2 A16.out).mono ?_)
                                (case side1 => repeat (first | exact (Kd.C_below HR0.out HB.out) | (with_reducible refine Kd.C_alloc ?_ _) | (with_reducible refine Kd.C_drewN ?_ _) | (with_reducible refine Kd.C_drew ?_)))
                                (case side2 => exact HC0.out)
                                rintro e w60 ⟨v401, rfl, ho0, hb⟩
                                refine ⟨_, rfl, ?_⟩
                                have n0_ := Aside0.mk (Kd.R_lower ho0 (below_size (by repeat (first | (with_reducible first | exact HB.out | apply below_alloc | apply pw_below_drewN | apply below_drew1) | exact HB.out))))
                                have n1_ := Aside0.mk (below_step (by repeat (first | (with_reducible first | exact HB.out | apply below_alloc | apply pw_below_drewN | apply below_drew1) | exact HB.out)) hb)
                                clear HB
                                have HO402 := n0_
                                have HB := n1_
                                clear n0_ n1_
                                (try clear hb)
                                (try clear hb2)
                                (try clear hk)
                                (try clear hi)
                                (try clear ho0)
                                go_wp2_with ((with_reducible refine gate_callee (f := 17) rfl ?_); refine Aside0.out (p := _) ?_)
                                refine ⟨?_⟩
                                refine goesL_ (some 27) rfl rfl Try.func17 (by kernel_rfl) rfl #[.slice A0 l0.length c0, .slice A1 l1.length c1] rfl (by (try simp only [List.map_toArray, List.map_cons, List.map_nil]); first | done | rfl | (simp only [List.length_drop, List.length_take]; rfl)) ?_
                                (with_reducible refine (spans_Union.calls _ _ l0 _ _ l1 t403 _ ?side1 ?side2 ?side3 ?side4 A17.out).mono ?_)
                                (case side1 => repeat (first | exact (Kd.C_below HR0.out HB.out) | (with_reducible refine Kd.C_alloc ?_ _) | (with_reducible refine Kd.C_drewN ?_ _) | (with_reducible refine Kd.C_drew ?_)))
                                (case side2 => exact HC0.out)
                                (case side3 => repeat (first | exact (Kd.C_below HR1.out HB.out) | (with_reducible refine Kd.C_alloc ?_ _) | (with_reducible refine Kd.C_drewN ?_ _) | (with_reducible refine Kd.C_drew ?_)))
                                (case side4 => exact HC1.out)
                                rintro e w61 ⟨v404, rfl, ho0, hb⟩
                                refine ⟨_, rfl, ?_⟩
                                have n0_ := Aside0.mk (Kd.R_elder' (by (with_reducible repeat (first | apply Kd.R_alloc | apply Kd.R_drewN | apply Kd.R_drew)); exact HO402.out) (Kd.R_base ho0) hb)
                                have n1_ := Aside0.mk (Kd.R_lower ho0 (below_size (by repeat (first | (with_reducible first | exact HB.out | apply below_alloc | apply pw_below_drewN | apply below_drew1) | exact HB.out))))
                                have n2_ := Aside0.mk (below_step (by repeat (first | (with_reducible first | exact HB.out | apply below_alloc | apply pw_below_drewN | apply below_drew1) | exact HB.out)) hb)
                                clear HO402
                                clear HB
                                have HO402 := n0_
                                have HO405 := n1_
                                have HB := n2_
                                clear n0_ n1_ n2_
                                (try clear hb)
                                (try clear hb2)
                                (try clear hk)
                                (try clear hi)
                                (try clear ho0)
                                go_wp2_with ((with_reducible refine gate_callee (f := 17) rfl ?_); refine Aside0.out (p := _) ?_)
                                refine ⟨?_⟩
                                refine goesL_ (some 30) rfl rfl Try.func17 (by kernel_rfl) rfl #[.slice A1 l1.length c1, .slice A0 l0.length c0] rfl (by (try simp only [List.map_toArray, List.map_cons, List.map_nil]); first | done | rfl | (simp only [List.length_drop, List.length_take]; rfl)) ?_
                                (with_reducible refine (spans_Union.calls _ _ l1 _ _ l0 t406 _ ?side1 ?side2 ?side3 ?side4 A18.out).mono ?_)
                                (case side1 => repeat (first | exact (Kd.C_below HR1.out HB.out) | (with_reducible refine Kd.C_alloc ?_ _) | (with_reducible refine Kd.C_drewN ?_ _) | (with_reducible refine Kd.C_drew ?_)))
                                (case side2 => exact HC1.out)
                                (case side3 => repeat (first | exact (Kd.C_below HR0.out HB.out) | (with_reducible refine Kd.C_alloc ?_ _) | (with_reducible refine Kd.C_drewN ?_ _) | (with_reducible refine Kd.C_drew ?_)))
                                (case side4 => exact HC0.out)
                                rintro e w62 ⟨v407, rfl, ho0, hb⟩
                                refine ⟨_, rfl, ?_⟩
                                have n0_ := Aside0.mk (Kd.R_elder' (by (with_reducible repeat (first | apply Kd.R_alloc | apply Kd.R_drewN | apply Kd.R_drew)); exact HO402.out) (Kd.R_base ho0) hb)
                                have n1_ := Aside0.mk (Kd.R_elder' (by (with_reducible repeat (first | apply Kd.R_alloc | apply Kd.R_drewN | apply Kd.R_drew)); exact HO405.out) (Kd.R_base ho0) hb)
                                have n2_ := Aside0.mk (Kd.R_lower ho0 (below_size (by repeat (first | (with_reducible first | exact HB.out | apply below_alloc | apply pw_below_drewN | apply below_drew1) | exact HB.out))))
                                have n3_ := Aside0.mk (below_step (by repeat (first | (with_reducible first | exact HB.out | apply below_alloc | apply pw_below_drewN | apply below_drew1) | exact HB.out)) hb)
                                clear HO402
                                clear HO405
                                clear HB
                                have HO402 := n0_
                                have HO405 := n1_
                                have HO408 := n2_
                                have HB := n3_
                                clear n0_ n1_ n2_ n3_
                                (try clear hb)
                                (try clear hb2)
                                (try clear hk)
                                (try clear hi)
                                (try clear ho0)
                                obtain ⟨Ao63, co63, eo63⟩ := Kd.R_slice HO405.out
                                subst eo63
                                obtain ⟨Ao64, co64, eo64⟩ := Kd.R_slice HO408.out
                                subst eo64
                                go_wp2_with ((with_reducible refine gate_callee (f := 14) rfl ?_); refine Aside0.out (p := _) ?_)
                                refine ⟨?_⟩
                                refine goesL_ (some 31) rfl rfl Try.func14 (by kernel_rfl) rfl #[.slice Ao63 t403.length co63, .slice Ao64 t406.length co64] rfl (by (try simp only [List.map_toArray, List.map_cons, List.map_nil]); first | done | rfl | (simp only [List.length_drop, List.length_take]; rfl)) ?_
                                (with_reducible refine (testamurref03_Same.calls kj13 _ _ t403 _ _ t406 true _ ?side1 ?side2 ?side3 ?side4 A19.out).mono ?_)
                                (case side1 => repeat (first | exact (Kd.R_reads' HO405.out).2.2 | (with_reducible refine Kd.C_alloc ?_ _) | (with_reducible refine Kd.C_drewN ?_ _) | (with_reducible refine Kd.C_drew ?_)))
                                (case side2 => exact (Kd.R_reads' HO405.out).2.1)
                                (case side3 => repeat (first | exact (Kd.R_reads' HO408.out).2.2 | (with_reducible refine Kd.C_alloc ?_ _) | (with_reducible refine Kd.C_drewN ?_ _) | (with_reducible refine Kd.C_drew ?_)))
                                (case side4 => exact (Kd.R_reads' HO408.out).2.1)
                                rintro e w' ⟨rfl, ⟨nd, rfl⟩⟩
                                refine ⟨_, rfl, ?_⟩
                                go_wp2_with (go_at_call 19; (with_reducible refine (spans_Meet.calls _ _ l0 _ _ l1 t410 _ ?side1 ?side2 ?side3 ?side4 A21.out).mono ?_); (case side1 => repeat (first | exact (Kd.C_below HR0.out (by repeat (first | (with_reducible first | exact HB.out | apply below_alloc | apply pw_below_drewN | apply below_drew1) | exact HB.out))) | (with_reducible refine Kd.C_alloc ?_ _) | (with_reducible refine Kd.C_drewN ?_ _) | (with_reducible refine Kd.C_drew ?_))); (case side2 => exact HC0.out); (case side3 => repeat (first | exact (Kd.C_below HR1.out (by repeat (first | (with_reducible first | exact HB.out | apply below_alloc | apply pw_below_drewN | apply below_drew1) | exact HB.out))) | (with_reducible refine Kd.C_alloc ?_ _) | (with_reducible refine Kd.C_drewN ?_ _) | (with_reducible refine Kd.C_drew ?_))); (case side4 => exact HC1.out); refine Aside0.out (p := _) ?_)
                                refine ⟨?_⟩
                                rintro e w65 ⟨v411, rfl, ho0, hb⟩
                                have n0_ := Aside0.mk (Kd.R_elder' (by (with_reducible repeat (first | apply Kd.R_alloc | apply Kd.R_drewN | apply Kd.R_drew)); exact HO402.out) (Kd.R_base ho0) hb)
                                have n3_ := Aside0.mk (Kd.R_lower ho0 (below_size (by repeat (first | (with_reducible first | exact HB.out | apply below_alloc | apply pw_below_drewN | apply below_drew1) | exact HB.out))))
                                have n4_ := Aside0.mk (below_step (by repeat (first | (with_reducible first | exact HB.out | apply below_alloc | apply pw_below_drewN | apply below_drew1) | exact HB.out)) hb)
                                clear HO402
                                clear HO405
                                clear HO408
                                clear HB
                                have HO402 := n0_
                                have HO412 := n3_
                                have HB := n4_
                                clear n0_ n3_ n4_
                                (try clear hb)
                                (try clear hb2)
                                (try clear hk)
                                (try clear hi)
                                (try clear ho0)
                                go_wp2_with (go_at_call 19; (with_reducible refine (spans_Meet.calls _ _ l1 _ _ l0 t413 _ ?side1 ?side2 ?side3 ?side4 A22.out).mono ?_); (case side1 => repeat (first | exact (Kd.C_below HR1.out HB.out) | (with_reducible refine Kd.C_alloc ?_ _) | (with_reducible refine Kd.C_drewN ?_ _) | (with_reducible refine Kd.C_drew ?_))); (case side2 => exact HC1.out); (case side3 => repeat (first | exact (Kd.C_below HR0.out HB.out) | (with_reducible refine Kd.C_alloc ?_ _) | (with_reducible refine Kd.C_drewN ?_ _) | (with_reducible refine Kd.C_drew ?_))); (case side4 => exact HC0.out); refine Aside0.out (p := _) ?_)
                                refine ⟨?_⟩
                                rintro e w66 ⟨v414, rfl, ho0, hb⟩
                                have n0_ := Aside0.mk (Kd.R_elder' (by (with_reducible repeat (first | apply Kd.R_alloc | apply Kd.R_drewN | apply Kd.R_drew)); exact HO402.out) (Kd.R_base ho0) hb)
                                have n3_ := Aside0.mk (Kd.R_elder' (by (with_reducible repeat (first | apply Kd.R_alloc | apply Kd.R_drewN | apply Kd.R_drew)); exact HO412.out) (Kd.R_base ho0) hb)
                                have n4_ := Aside0.mk (Kd.R_lower ho0 (below_size (by repeat (first | (with_reducible first | exact HB.out | apply below_alloc | apply pw_below_drewN | apply below_drew1) | exact HB.out))))
                                have n5_ := Aside0.mk (below_step (by repeat (first | (with_reducible first | exact HB.out | apply below_alloc | apply pw_below_drewN | apply below_drew1) | exact HB.out)) hb)
                                clear HO402
                                clear HO412
                                clear HB
                                have HO402 := n0_
                                have HO412 := n3_
                                have HO415 := n4_
                                have HB := n5_
                                clear n0_ n3_ n4_ n5_
                                (try clear hb)
                                (try clear hb2)
                                (try clear hk)
                                (try clear hi)
                                (try clear ho0)
                                obtain ⟨Ao67, co67, eo67⟩ := Kd.R_slice HO412.out
                                subst eo67
                                obtain ⟨Ao68, co68, eo68⟩ := Kd.R_slice HO415.out
                                subst eo68
                                go_wp2_with (go_at_call 14; (with_reducible refine (testamurref03_Same.calls kj13 _ _ t410 _ _ t413 true _ ?side1 ?side2 ?side3 ?side4 A23.out).mono ?_); (case side1 => repeat (first | exact (Kd.R_reads' HO412.out).2.2 | (with_reducible refine Kd.C_alloc ?_ _) | (with_reducible refine Kd.C_drewN ?_ _) | (with_reducible refine Kd.C_drew ?_))); (case side2 => exact (Kd.R_reads' HO412.out).2.1); (case side3 => repeat (first | exact (Kd.R_reads' HO415.out).2.2 | (with_reducible refine Kd.C_alloc ?_ _) | (with_reducible refine Kd.C_drewN ?_ _) | (with_reducible refine Kd.C_drew ?_))); (case side4 => exact (Kd.R_reads' HO415.out).2.1); refine Aside0.out (p := _) ?_)
                                refine ⟨?_⟩
                                rintro e w' ⟨rfl, ⟨nd, rfl⟩⟩
                                go_wp2_with (go_at_call 17; (with_reducible refine (spans_Union.calls _ _ l0 _ _ l1 t417 _ ?side1 ?side2 ?side3 ?side4 A25.out).mono ?_); (case side1 => repeat (first | exact (Kd.C_below HR0.out (by repeat (first | (with_reducible first | exact HB.out | apply below_alloc | apply pw_below_drewN | apply below_drew1) | exact HB.out))) | (with_reducible refine Kd.C_alloc ?_ _) | (with_reducible refine Kd.C_drewN ?_ _) | (with_reducible refine Kd.C_drew ?_))); (case side2 => exact HC0.out); (case side3 => repeat (first | exact (Kd.C_below HR1.out (by repeat (first | (with_reducible first | exact HB.out | apply below_alloc | apply pw_below_drewN | apply below_drew1) | exact HB.out))) | (with_reducible refine Kd.C_alloc ?_ _) | (with_reducible refine Kd.C_drewN ?_ _) | (with_reducible refine Kd.C_drew ?_))); (case side4 => exact HC1.out); refine Aside0.out (p := _) ?_)
                                refine ⟨?_⟩
                                rintro e w69 ⟨v418, rfl, ho0, hb⟩
                                have n0_ := Aside0.mk (Kd.R_elder' (by (with_reducible repeat (first | apply Kd.R_alloc | apply Kd.R_drewN | apply Kd.R_drew)); exact HO402.out) (Kd.R_base ho0) hb)
                                have n5_ := Aside0.mk (Kd.R_lower ho0 (below_size (by repeat (first | (with_reducible first | exact HB.out | apply below_alloc | apply pw_below_drewN | apply below_drew1) | exact HB.out))))
                                have n6_ := Aside0.mk (below_step (by repeat (first | (with_reducible first | exact HB.out | apply below_alloc | apply pw_below_drewN | apply below_drew1) | exact HB.out)) hb)
                                clear HO402
                                clear HO412
                                clear HO415
                                clear HB
                                have HO402 := n0_
                                have HO419 := n5_
                                have HB := n6_
                                clear n0_ n5_ n6_
                                (try clear hb)
                                (try clear hb2)
                                (try clear hk)
                                (try clear hi)
                                (try clear ho0)
                                obtain ⟨Ao70, co70, eo70⟩ := Kd.R_slice HO419.out
                                subst eo70
                                go_wp2_with (go_at_call 17; (with_reducible refine (spans_Union.calls _ _ t417 _ _ l2 t420 _ ?side1 ?side2 ?side3 ?side4 A26.out).mono ?_); (case side1 => repeat (first | exact (Kd.R_reads' HO419.out).2.2 | (with_reducible refine Kd.C_alloc ?_ _) | (with_reducible refine Kd.C_drewN ?_ _) | (with_reducible refine Kd.C_drew ?_))); (case side2 => exact (Kd.R_reads' HO419.out).2.1); (case side3 => repeat (first | exact (Kd.C_below HR2.out HB.out) | (with_reducible refine Kd.C_alloc ?_ _) | (with_reducible refine Kd.C_drewN ?_ _) | (with_reducible refine Kd.C_drew ?_))); (case side4 => exact HC2.out); refine Aside0.out (p := _) ?_)
                                refine ⟨?_⟩
                                rintro e w71 ⟨v421, rfl, ho0, hb⟩
                                have n0_ := Aside0.mk (Kd.R_elder' (by (with_reducible repeat (first | apply Kd.R_alloc | apply Kd.R_drewN | apply Kd.R_drew)); exact HO402.out) (Kd.R_base ho0) hb)
                                have n6_ := Aside0.mk (Kd.R_lower ho0 (below_size (by repeat (first | (with_reducible first | exact HB.out | apply below_alloc | apply pw_below_drewN | apply below_drew1) | exact HB.out))))
                                have n7_ := Aside0.mk (below_step (by repeat (first | (with_reducible first | exact HB.out | apply below_alloc | apply pw_below_drewN | apply below_drew1) | exact HB.out)) hb)
                                clear HO402
                                clear HO419
                                clear HB
                                have HO402 := n0_
                                have HO422 := n6_
                                have HB := n7_
                                clear n0_ n6_ n7_
                                (try clear hb)
                                (try clear hb2)
                                (try clear hk)
                                (try clear hi)
                                (try clear ho0)
                                go_wp2_with (go_at_call 17; (with_reducible refine (spans_Union.calls _ _ l1 _ _ l2 t423 _ ?side1 ?side2 ?side3 ?side4 A27.out).mono ?_); (case side1 => repeat (first | exact (Kd.C_below HR1.out HB.out) | (with_reducible refine Kd.C_alloc ?_ _) | (with_reducible refine Kd.C_drewN ?_ _) | (with_reducible refine Kd.C_drew ?_))); (case side2 => exact HC1.out); (case side3 => repeat (first | exact (Kd.C_below HR2.out HB.out) | (with_reducible refine Kd.C_alloc ?_ _) | (with_reducible refine Kd.C_drewN ?_ _) | (with_reducible refine Kd.C_drew ?_))); (case side4 => exact HC2.out); refine Aside0.out (p := _) ?_)
                                refine ⟨?_⟩
                                rintro e w72 ⟨v424, rfl, ho0, hb⟩
                                have n0_ := Aside0.mk (Kd.R_elder' (by (with_reducible repeat (first | apply Kd.R_alloc | apply Kd.R_drewN | apply Kd.R_drew)); exact HO402.out) (Kd.R_base ho0) hb)
                                have n6_ := Aside0.mk (Kd.R_elder' (by (with_reducible repeat (first | apply Kd.R_alloc | apply Kd.R_drewN | apply Kd.R_drew)); exact HO422.out) (Kd.R_base ho0) hb)
                                have n7_ := Aside0.mk (Kd.R_lower ho0 (below_size (by repeat (first | (with_reducible first | exact HB.out | apply below_alloc | apply pw_below_drewN | apply below_drew1) | exact HB.out))))
                                have n8_ := Aside0.mk (below_step (by repeat (first | (with_reducible first | exact HB.out | apply below_alloc | apply pw_below_drewN | apply below_drew1) | exact HB.out)) hb)
                                clear HO402
                                clear HO422
                                clear HB
                                have HO402 := n0_
                                have HO422 := n6_
                                have HO425 := n7_
                                have HB := n8_
                                clear n0_ n6_ n7_ n8_
                                (try clear hb)
                                (try clear hb2)
                                (try clear hk)
                                (try clear hi)
                                (try clear ho0)
                                obtain ⟨Ao73, co73, eo73⟩ := Kd.R_slice HO425.out
                                subst eo73
                                go_wp2_with (go_at_call 17; (with_reducible refine (spans_Union.calls _ _ l0 _ _ t423 t426 _ ?side1 ?side2 ?side3 ?side4 A28.out).mono ?_); (case side1 => repeat (first | exact (Kd.C_below HR0.out HB.out) | (with_reducible refine Kd.C_alloc ?_ _) | (with_reducible refine Kd.C_drewN ?_ _) | (with_reducible refine Kd.C_drew ?_))); (case side2 => exact HC0.out); (case side3 => repeat (first | exact (Kd.R_reads' HO425.out).2.2 | (with_reducible refine Kd.C_alloc ?_ _) | (with_reducible refine Kd.C_drewN ?_ _) | (with_reducible refine Kd.C_drew ?_))); (case side4 => exact (Kd.R_reads' HO425.out).2.1); refine Aside0.out (p := _) ?_)
                                refine ⟨?_⟩
                                rintro e w74 ⟨v427, rfl, ho0, hb⟩
                                have n0_ := Aside0.mk (Kd.R_elder' (by (with_reducible repeat (first | apply Kd.R_alloc | apply Kd.R_drewN | apply Kd.R_drew)); exact HO402.out) (Kd.R_base ho0) hb)
                                have n6_ := Aside0.mk (Kd.R_elder' (by (with_reducible repeat (first | apply Kd.R_alloc | apply Kd.R_drewN | apply Kd.R_drew)); exact HO422.out) (Kd.R_base ho0) hb)
                                have n8_ := Aside0.mk (Kd.R_lower ho0 (below_size (by repeat (first | (with_reducible first | exact HB.out | apply below_alloc | apply pw_below_drewN | apply below_drew1) | exact HB.out))))
                                have n9_ := Aside0.mk (below_step (by repeat (first | (with_reducible first | exact HB.out | apply below_alloc | apply pw_below_drewN | apply below_drew1) | exact HB.out)) hb)
                                clear HO402
                                clear HO422
                                clear HO425
                                clear HB
                                have HO402 := n0_
                                have HO422 := n6_
                                have HO428 := n8_
                                have HB := n9_
                                clear n0_ n6_ n8_ n9_
                                (try clear hb)
                                (try clear hb2)
                                (try clear hk)
                                (try clear hi)
                                (try clear ho0)
                                obtain ⟨Ao75, co75, eo75⟩ := Kd.R_slice HO422.out
                                subst eo75
                                obtain ⟨Ao76, co76, eo76⟩ := Kd.R_slice HO428.out
                                subst eo76
                                go_wp2_with (go_at_call 14; (with_reducible refine (testamurref03_Same.calls kj13 _ _ t420 _ _ t426 true _ ?side1 ?side2 ?side3 ?side4 A29.out).mono ?_); (case side1 => repeat (first | exact (Kd.R_reads' HO422.out).2.2 | (with_reducible refine Kd.C_alloc ?_ _) | (with_reducible refine Kd.C_drewN ?_ _) | (with_reducible refine Kd.C_drew ?_))); (case side2 => exact (Kd.R_reads' HO422.out).2.1); (case side3 => repeat (first | exact (Kd.R_reads' HO428.out).2.2 | (with_reducible refine Kd.C_alloc ?_ _) | (with_reducible refine Kd.C_drewN ?_ _) | (with_reducible refine Kd.C_drew ?_))); (case side4 => exact (Kd.R_reads' HO428.out).2.1); refine Aside0.out (p := _) ?_)
                                refine ⟨?_⟩
                                rintro e w' ⟨rfl, ⟨nd, rfl⟩⟩
                                go_wp2_with (go_at_call 19; (with_reducible refine (spans_Meet.calls _ _ l0 _ _ l1 t430 _ ?side1 ?side2 ?side3 ?side4 A31.out).mono ?_); (case side1 => repeat (first | exact (Kd.C_below HR0.out (by repeat (first | (with_reducible first | exact HB.out | apply below_alloc | apply pw_below_drewN | apply below_drew1) | exact HB.out))) | (with_reducible refine Kd.C_alloc ?_ _) | (with_reducible refine Kd.C_drewN ?_ _) | (with_reducible refine Kd.C_drew ?_))); (case side2 => exact HC0.out); (case side3 => repeat (first | exact (Kd.C_below HR1.out (by repeat (first | (with_reducible first | exact HB.out | apply below_alloc | apply pw_below_drewN | apply below_drew1) | exact HB.out))) | (with_reducible refine Kd.C_alloc ?_ _) | (with_reducible refine Kd.C_drewN ?_ _) | (with_reducible refine Kd.C_drew ?_))); (case side4 => exact HC1.out); refine Aside0.out (p := _) ?_)
                                refine ⟨?_⟩
                                rintro e w77 ⟨v431, rfl, ho0, hb⟩
                                have n0_ := Aside0.mk (Kd.R_elder' (by (with_reducible repeat (first | apply Kd.R_alloc | apply Kd.R_drewN | apply Kd.R_drew)); exact HO402.out) (Kd.R_base ho0) hb)
                                have n9_ := Aside0.mk (Kd.R_lower ho0 (below_size (by repeat (first | (with_reducible first | exact HB.out | apply below_alloc | apply pw_below_drewN | apply below_drew1) | exact HB.out))))
                                have n10_ := Aside0.mk (below_step (by repeat (first | (with_reducible first | exact HB.out | apply below_alloc | apply pw_below_drewN | apply below_drew1) | exact HB.out)) hb)
                                clear HO402
                                clear HO422
                                clear HO428
                                clear HB
                                have HO402 := n0_
                                have HO432 := n9_
                                have HB := n10_
                                clear n0_ n9_ n10_
                                (try clear hb)
                                (try clear hb2)
                                (try clear hk)
                                (try clear hi)
                                (try clear ho0)
                                obtain ⟨Ao78, co78, eo78⟩ := Kd.R_slice HO432.out
                                subst eo78
                                go_wp2_with (go_at_call 19; (with_reducible refine (spans_Meet.calls _ _ t430 _ _ l2 t433 _ ?side1 ?side2 ?side3 ?side4 A32.out).mono ?_); (case side1 => repeat (first | exact (Kd.R_reads' HO432.out).2.2 | (with_reducible refine Kd.C_alloc ?_ _) | (with_reducible refine Kd.C_drewN ?_ _) | (with_reducible refine Kd.C_drew ?_))); (case side2 => exact (Kd.R_reads' HO432.out).2.1); (case side3 => repeat (first | exact (Kd.C_below HR2.out HB.out) | (with_reducible refine Kd.C_alloc ?_ _) | (with_reducible refine Kd.C_drewN ?_ _) | (with_reducible refine Kd.C_drew ?_))); (case side4 => exact HC2.out); refine Aside0.out (p := _) ?_)
                                refine ⟨?_⟩
                                rintro e w79 ⟨v434, rfl, ho0, hb⟩
                                have n0_ := Aside0.mk (Kd.R_elder' (by (with_reducible repeat (first | apply Kd.R_alloc | apply Kd.R_drewN | apply Kd.R_drew)); exact HO402.out) (Kd.R_base ho0) hb)
                                have n10_ := Aside0.mk (Kd.R_lower ho0 (below_size (by repeat (first | (with_reducible first | exact HB.out | apply below_alloc | apply pw_below_drewN | apply below_drew1) | exact HB.out))))
                                have n11_ := Aside0.mk (below_step (by repeat (first | (with_reducible first | exact HB.out | apply below_alloc | apply pw_below_drewN | apply below_drew1) | exact HB.out)) hb)
                                clear HO402
                                clear HO432
                                clear HB
                                have HO402 := n0_
                                have HO435 := n10_
                                have HB := n11_
                                clear n0_ n10_ n11_
                                (try clear hb)
                                (try clear hb2)
                                (try clear hk)
                                (try clear hi)
                                (try clear ho0)
                                go_wp2_with (go_at_call 19; (with_reducible refine (spans_Meet.calls _ _ l1 _ _ l2 t436 _ ?side1 ?side2 ?side3 ?side4 A33.out).mono ?_); (case side1 => repeat (first | exact (Kd.C_below HR1.out HB.out) | (with_reducible refine Kd.C_alloc ?_ _) | (with_reducible refine Kd.C_drewN ?_ _) | (with_reducible refine Kd.C_drew ?_))); (case side2 => exact HC1.out); (case side3 => repeat (first | exact (Kd.C_below HR2.out HB.out) | (with_reducible refine Kd.C_alloc ?_ _) | (with_reducible refine Kd.C_drewN ?_ _) | (with_reducible refine Kd.C_drew ?_))); (case side4 => exact HC2.out); refine Aside0.out (p := _) ?_)
                                refine ⟨?_⟩
                                rintro e w80 ⟨v437, rfl, ho0, hb⟩
                                have n0_ := Aside0.mk (Kd.R_elder' (by (with_reducible repeat (first | apply Kd.R_alloc | apply Kd.R_drewN | apply Kd.R_drew)); exact HO402.out) (Kd.R_base ho0) hb)
                                have n10_ := Aside0.mk (Kd.R_elder' (by (with_reducible repeat (first | apply Kd.R_alloc | apply Kd.R_drewN | apply Kd.R_drew)); exact HO435.out) (Kd.R_base ho0) hb)
                                have n11_ := Aside0.mk (Kd.R_lower ho0 (below_size (by repeat (first | (with_reducible first | exact HB.out | apply below_alloc | apply pw_below_drewN | apply below_drew1) | exact HB.out))))
                                have n12_ := Aside0.mk (below_step (by repeat (first | (with_reducible first | exact HB.out | apply below_alloc | apply pw_below_drewN | apply below_drew1) | exact HB.out)) hb)
                                clear HO402
                                clear HO435
                                clear HB
                                have HO402 := n0_
                                have HO435 := n10_
                                have HO438 := n11_
                                have HB := n12_
                                clear n0_ n10_ n11_ n12_
                                (try clear hb)
                                (try clear hb2)
                                (try clear hk)
                                (try clear hi)
                                (try clear ho0)
                                obtain ⟨Ao81, co81, eo81⟩ := Kd.R_slice HO438.out
                                subst eo81
                                go_wp2_with (go_at_call 19; (with_reducible refine (spans_Meet.calls _ _ l0 _ _ t436 t439 _ ?side1 ?side2 ?side3 ?side4 A34.out).mono ?_); (case side1 => repeat (first | exact (Kd.C_below HR0.out HB.out) | (with_reducible refine Kd.C_alloc ?_ _) | (with_reducible refine Kd.C_drewN ?_ _) | (with_reducible refine Kd.C_drew ?_))); (case side2 => exact HC0.out); (case side3 => repeat (first | exact (Kd.R_reads' HO438.out).2.2 | (with_reducible refine Kd.C_alloc ?_ _) | (with_reducible refine Kd.C_drewN ?_ _) | (with_reducible refine Kd.C_drew ?_))); (case side4 => exact (Kd.R_reads' HO438.out).2.1); refine Aside0.out (p := _) ?_)
                                refine ⟨?_⟩
                                rintro e w82 ⟨v440, rfl, ho0, hb⟩
                                have n0_ := Aside0.mk (Kd.R_elder' (by (with_reducible repeat (first | apply Kd.R_alloc | apply Kd.R_drewN | apply Kd.R_drew)); exact HO402.out) (Kd.R_base ho0) hb)
                                have n10_ := Aside0.mk (Kd.R_elder' (by (with_reducible repeat (first | apply Kd.R_alloc | apply Kd.R_drewN | apply Kd.R_drew)); exact HO435.out) (Kd.R_base ho0) hb)
                                have n12_ := Aside0.mk (Kd.R_lower ho0 (below_size (by repeat (first | (with_reducible first | exact HB.out | apply below_alloc | apply pw_below_drewN | apply below_drew1) | exact HB.out))))
                                have n13_ := Aside0.mk (below_step (by repeat (first | (with_reducible first | exact HB.out | apply below_alloc | apply pw_below_drewN | apply below_drew1) | exact HB.out)) hb)
                                clear HO402
                                clear HO435
                                clear HO438
                                clear HB
                                have HO402 := n0_
                                have HO435 := n10_
                                have HO441 := n12_
                                have HB := n13_
                                clear n0_ n10_ n12_ n13_
                                (try clear hb)
                                (try clear hb2)
                                (try clear hk)
                                (try clear hi)
                                (try clear ho0)
                                obtain ⟨Ao83, co83, eo83⟩ := Kd.R_slice HO435.out
                                subst eo83
                                obtain ⟨Ao84, co84, eo84⟩ := Kd.R_slice HO441.out
                                subst eo84
                                go_wp2_with (go_at_call 14; (with_reducible refine (testamurref03_Same.calls kj13 _ _ t433 _ _ t439 true _ ?side1 ?side2 ?side3 ?side4 A35.out).mono ?_); (case side1 => repeat (first | exact (Kd.R_reads' HO435.out).2.2 | (with_reducible refine Kd.C_alloc ?_ _) | (with_reducible refine Kd.C_drewN ?_ _) | (with_reducible refine Kd.C_drew ?_))); (case side2 => exact (Kd.R_reads' HO435.out).2.1); (case side3 => repeat (first | exact (Kd.R_reads' HO441.out).2.2 | (with_reducible refine Kd.C_alloc ?_ _) | (with_reducible refine Kd.C_drewN ?_ _) | (with_reducible refine Kd.C_drew ?_))); (case side4 => exact (Kd.R_reads' HO441.out).2.1); refine Aside0.out (p := _) ?_)
                                refine ⟨?_⟩
                                rintro e w' ⟨rfl, ⟨nd, rfl⟩⟩
                                go_wp2_with (go_at_call 17; (with_reducible refine (spans_Union.calls _ _ l1 _ _ l2 t443 _ ?side1 ?side2 ?side3 ?side4 A37.out).mono ?_); (case side1 => repeat (first | exact (Kd.C_below HR1.out (by repeat (first | (with_reducible first | exact HB.out | apply below_alloc | apply pw_below_drewN | apply below_drew1) | exact HB.out))) | (with_reducible refine Kd.C_alloc ?_ _) | (with_reducible refine Kd.C_drewN ?_ _) | (with_reducible refine Kd.C_drew ?_))); (case side2 => exact HC1.out); (case side3 => repeat (first | exact (Kd.C_below HR2.out (by repeat (first | (with_reducible first | exact HB.out | apply below_alloc | apply pw_below_drewN | apply below_drew1) | exact HB.out))) | (with_reducible refine Kd.C_alloc ?_ _) | (with_reducible refine Kd.C_drewN ?_ _) | (with_reducible refine Kd.C_drew ?_))); (case side4 => exact HC2.out); refine Aside0.out (p := _) ?_)
                                refine ⟨?_⟩
                                rintro e w85 ⟨v444, rfl, ho0, hb⟩
                                have n0_ := Aside0.mk (Kd.R_elder' (by (with_reducible repeat (first | apply Kd.R_alloc | apply Kd.R_drewN | apply Kd.R_drew)); exact HO402.out) (Kd.R_base ho0) hb)
                                have n13_ := Aside0.mk (Kd.R_lower ho0 (below_size (by repeat (first | (with_reducible first | exact HB.out | apply below_alloc | apply pw_below_drewN | apply below_drew1) | exact HB.out))))
                                have n14_ := Aside0.mk (below_step (by repeat (first | (with_reducible first | exact HB.out | apply below_alloc | apply pw_below_drewN | apply below_drew1) | exact HB.out)) hb)
                                clear HO402
                                clear HO435
                                clear HO441
                                clear HB
                                have HO402 := n0_
                                have HO445 := n13_
                                have HB := n14_
                                clear n0_ n13_ n14_
                                (try clear hb)
                                (try clear hb2)
                                (try clear hk)
                                (try clear hi)
                                (try clear ho0)
                                obtain ⟨Ao86, co86, eo86⟩ := Kd.R_slice HO445.out
                                subst eo86
                                go_wp2_with (go_at_call 19; (with_reducible refine (spans_Meet.calls _ _ l0 _ _ t443 t446 _ ?side1 ?side2 ?side3 ?side4 A38.out).mono ?_); (case side1 => repeat (first | exact (Kd.C_below HR0.out HB.out) | (with_reducible refine Kd.C_alloc ?_ _) | (with_reducible refine Kd.C_drewN ?_ _) | (with_reducible refine Kd.C_drew ?_))); (case side2 => exact HC0.out); (case side3 => repeat (first | exact (Kd.R_reads' HO445.out).2.2 | (with_reducible refine Kd.C_alloc ?_ _) | (with_reducible refine Kd.C_drewN ?_ _) | (with_reducible refine Kd.C_drew ?_))); (case side4 => exact (Kd.R_reads' HO445.out).2.1); refine Aside0.out (p := _) ?_)
                                refine ⟨?_⟩
                                rintro e w87 ⟨v447, rfl, ho0, hb⟩
                                have n0_ := Aside0.mk (Kd.R_elder' (by (with_reducible repeat (first | apply Kd.R_alloc | apply Kd.R_drewN | apply Kd.R_drew)); exact HO402.out) (Kd.R_base ho0) hb)
                                have n14_ := Aside0.mk (Kd.R_lower ho0 (below_size (by repeat (first | (with_reducible first | exact HB.out | apply below_alloc | apply pw_below_drewN | apply below_drew1) | exact HB.out))))
                                have n15_ := Aside0.mk (below_step (by repeat (first | (with_reducible first | exact HB.out | apply below_alloc | apply pw_below_drewN | apply below_drew1) | exact HB.out)) hb)
                                clear HO402
                                clear HO445
                                clear HB
                                have HO402 := n0_
                                have HO448 := n14_
                                have HB := n15_
                                clear n0_ n14_ n15_
                                (try clear hb)
                                (try clear hb2)
                                (try clear hk)
                                (try clear hi)
                                (try clear ho0)
                                go_wp2_with (go_at_call 19; (with_reducible refine (spans_Meet.calls _ _ l0 _ _ l1 t449 _ ?side1 ?side2 ?side3 ?side4 A39.out).mono ?_); (case side1 => repeat (first | exact (Kd.C_below HR0.out HB.out) | (with_reducible refine Kd.C_alloc ?_ _) | (with_reducible refine Kd.C_drewN ?_ _) | (with_reducible refine Kd.C_drew ?_))); (case side2 => exact HC0.out); (case side3 => repeat (first | exact (Kd.C_below HR1.out HB.out) | (with_reducible refine Kd.C_alloc ?_ _) | (with_reducible refine Kd.C_drewN ?_ _) | (with_reducible refine Kd.C_drew ?_))); (case side4 => exact HC1.out); refine Aside0.out (p := _) ?_)
                                refine ⟨?_⟩
                                rintro e w88 ⟨v450, rfl, ho0, hb⟩
                                have n0_ := Aside0.mk (Kd.R_elder' (by (with_reducible repeat (first | apply Kd.R_alloc | apply Kd.R_drewN | apply Kd.R_drew)); exact HO402.out) (Kd.R_base ho0) hb)
                                have n14_ := Aside0.mk (Kd.R_elder' (by (with_reducible repeat (first | apply Kd.R_alloc | apply Kd.R_drewN | apply Kd.R_drew)); exact HO448.out) (Kd.R_base ho0) hb)
                                have n15_ := Aside0.mk (Kd.R_lower ho0 (below_size (by repeat (first | (with_reducible first | exact HB.out | apply below_alloc | apply pw_below_drewN | apply below_drew1) | exact HB.out))))
                                have n16_ := Aside0.mk (below_step (by repeat (first | (with_reducible first | exact HB.out | apply below_alloc | apply pw_below_drewN | apply below_drew1) | exact HB.out)) hb)
                                clear HO402
                                clear HO448
                                clear HB
                                have HO402 := n0_
                                have HO448 := n14_
                                have HO451 := n15_
                                have HB := n16_
                                clear n0_ n14_ n15_ n16_
                                (try clear hb)
                                (try clear hb2)
                                (try clear hk)
                                (try clear hi)
                                (try clear ho0)
                                go_wp2_with (go_at_call 19; (with_reducible refine (spans_Meet.calls _ _ l0 _ _ l2 t452 _ ?side1 ?side2 ?side3 ?side4 A40.out).mono ?_); (case side1 => repeat (first | exact (Kd.C_below HR0.out HB.out) | (with_reducible refine Kd.C_alloc ?_ _) | (with_reducible refine Kd.C_drewN ?_ _) | (with_reducible refine Kd.C_drew ?_))); (case side2 => exact HC0.out); (case side3 => repeat (first | exact (Kd.C_below HR2.out HB.out) | (with_reducible refine Kd.C_alloc ?_ _) | (with_reducible refine Kd.C_drewN ?_ _) | (with_reducible refine Kd.C_drew ?_))); (case side4 => exact HC2.out); refine Aside0.out (p := _) ?_)
                                refine ⟨?_⟩
                                rintro e w89 ⟨v453, rfl, ho0, hb⟩
                                have n0_ := Aside0.mk (Kd.R_elder' (by (with_reducible repeat (first | apply Kd.R_alloc | apply Kd.R_drewN | apply Kd.R_drew)); exact HO402.out) (Kd.R_base ho0) hb)
                                have n14_ := Aside0.mk (Kd.R_elder' (by (with_reducible repeat (first | apply Kd.R_alloc | apply Kd.R_drewN | apply Kd.R_drew)); exact HO448.out) (Kd.R_base ho0) hb)
                                have n15_ := Aside0.mk (Kd.R_elder' (by (with_reducible repeat (first | apply Kd.R_alloc | apply Kd.R_drewN | apply Kd.R_drew)); exact HO451.out) (Kd.R_base ho0) hb)
                                have n16_ := Aside0.mk (Kd.R_lower ho0 (below_size (by repeat (first | (with_reducible first | exact HB.out | apply below_alloc | apply pw_below_drewN | apply below_drew1) | exact HB.out))))
                                have n17_ := Aside0.mk (below_step (by repeat (first | (with_reducible first | exact HB.out | apply below_alloc | apply pw_below_drewN | apply below_drew1) | exact HB.out)) hb)
                                clear HO402
                                clear HO448
                                clear HO451
                                clear HB
                                have HO402 := n0_
                                have HO448 := n14_
                                have HO451 := n15_
                                have HO454 := n16_
                                have HB := n17_
                                clear n0_ n14_ n15_ n16_ n17_
                                (try clear hb)
                                (try clear hb2)
                                (try clear hk)
                                (try clear hi)
                                (try clear ho0)
                                obtain ⟨Ao90, co90, eo90⟩ := Kd.R_slice HO451.out
                                subst eo90
                                obtain ⟨Ao91, co91, eo91⟩ := Kd.R_slice HO454.out
                                subst eo91
                                go_wp2_with (go_at_call 17; (with_reducible refine (spans_Union.calls _ _ t449 _ _ t452 t455 _ ?side1 ?side2 ?side3 ?side4 A41.out).mono ?_); (case side1 => repeat (first | exact (Kd.R_reads' HO451.out).2.2 | (with_reducible refine Kd.C_alloc ?_ _) | (with_reducible refine Kd.C_drewN ?_ _) | (with_reducible refine Kd.C_drew ?_))); (case side2 => exact (Kd.R_reads' HO451.out).2.1); (case side3 => repeat (first | exact (Kd.R_reads' HO454.out).2.2 | (with_reducible refine Kd.C_alloc ?_ _) | (with_reducible refine Kd.C_drewN ?_ _) | (with_reducible refine Kd.C_drew ?_))); (case side4 => exact (Kd.R_reads' HO454.out).2.1); refine Aside0.out (p := _) ?_)
                                refine ⟨?_⟩
                                rintro e w92 ⟨v456, rfl, ho0, hb⟩
                                have n0_ := Aside0.mk (Kd.R_elder' (by (with_reducible repeat (first | apply Kd.R_alloc | apply Kd.R_drewN | apply Kd.R_drew)); exact HO402.out) (Kd.R_base ho0) hb)
                                have n14_ := Aside0.mk (Kd.R_elder' (by (with_reducible repeat (first | apply Kd.R_alloc | apply Kd.R_drewN | apply Kd.R_drew)); exact HO448.out) (Kd.R_base ho0) hb)
                                have n17_ := Aside0.mk (Kd.R_lower ho0 (below_size (by repeat (first | (with_reducible first | exact HB.out | apply below_alloc | apply pw_below_drewN | apply below_drew1) | exact HB.out))))
                                have n18_ := Aside0.mk (below_step (by repeat (first | (with_reducible first | exact HB.out | apply below_alloc | apply pw_below_drewN | apply below_drew1) | exact HB.out)) hb)
                                clear HO402
                                clear HO448
                                clear HO451
                                clear HO454
                                clear HB
                                have HO402 := n0_
                                have HO448 := n14_
                                have HO457 := n17_
                                have HB := n18_
                                clear n0_ n14_ n17_ n18_
                                (try clear hb)
                                (try clear hb2)
                                (try clear hk)
                                (try clear hi)
                                (try clear ho0)
                                obtain ⟨Ao93, co93, eo93⟩ := Kd.R_slice HO448.out
                                subst eo93
                                obtain ⟨Ao94, co94, eo94⟩ := Kd.R_slice HO457.out
                                subst eo94
                                go_wp2_with (go_at_call 14; (with_reducible refine (testamurref03_Same.calls kj13 _ _ t446 _ _ t455 true _ ?side1 ?side2 ?side3 ?side4 A42.out).mono ?_); (case side1 => repeat (first | exact (Kd.R_reads' HO448.out).2.2 | (with_reducible refine Kd.C_alloc ?_ _) | (with_reducible refine Kd.C_drewN ?_ _) | (with_reducible refine Kd.C_drew ?_))); (case side2 => exact (Kd.R_reads' HO448.out).2.1); (case side3 => repeat (first | exact (Kd.R_reads' HO457.out).2.2 | (with_reducible refine Kd.C_alloc ?_ _) | (with_reducible refine Kd.C_drewN ?_ _) | (with_reducible refine Kd.C_drew ?_))); (case side4 => exact (Kd.R_reads' HO457.out).2.1); refine Aside0.out (p := _) ?_)
                                refine ⟨?_⟩
                                rintro e w' ⟨rfl, ⟨nd, rfl⟩⟩
                                go_wp2_with (go_at_call 17; (with_reducible refine (spans_Union.calls _ _ l0 _ _ l0 t459 _ ?side1 ?side2 ?side3 ?side4 A44.out).mono ?_); (case side1 => repeat (first | exact (Kd.C_below HR0.out (by repeat (first | (with_reducible first | exact HB.out | apply below_alloc | apply pw_below_drewN | apply below_drew1) | exact HB.out))) | (with_reducible refine Kd.C_alloc ?_ _) | (with_reducible refine Kd.C_drewN ?_ _) | (with_reducible refine Kd.C_drew ?_))); (case side2 => exact HC0.out); (case side3 => repeat (first | exact (Kd.C_below HR0.out (by repeat (first | (with_reducible first | exact HB.out | apply below_alloc | apply pw_below_drewN | apply below_drew1) | exact HB.out))) | (with_reducible refine Kd.C_alloc ?_ _) | (with_reducible refine Kd.C_drewN ?_ _) | (with_reducible refine Kd.C_drew ?_))); (case side4 => exact HC0.out); refine Aside0.out (p := _) ?_)
                                refine ⟨?_⟩
                                rintro e w95 ⟨v460, rfl, ho0, hb⟩
                                have n0_ := Aside0.mk (Kd.R_elder' (by (with_reducible repeat (first | apply Kd.R_alloc | apply Kd.R_drewN | apply Kd.R_drew)); exact HO402.out) (Kd.R_base ho0) hb)
                                have n18_ := Aside0.mk (Kd.R_lower ho0 (below_size (by repeat (first | (with_reducible first | exact HB.out | apply below_alloc | apply pw_below_drewN | apply below_drew1) | exact HB.out))))
                                have n19_ := Aside0.mk (below_step (by repeat (first | (with_reducible first | exact HB.out | apply below_alloc | apply pw_below_drewN | apply below_drew1) | exact HB.out)) hb)
                                clear HO402
                                clear HO448
                                clear HO457
                                clear HB
                                have HO402 := n0_
                                have HO461 := n18_
                                have HB := n19_
                                clear n0_ n18_ n19_
                                (try clear hb)
                                (try clear hb2)
                                (try clear hk)
                                (try clear hi)
                                (try clear ho0)
                                obtain ⟨Ao96, co96, eo96⟩ := Kd.R_slice HO461.out
                                subst eo96
                                obtain ⟨Ao97, co97, eo97⟩ := Kd.R_slice HO402.out
                                subst eo97
                                go_wp2_with (go_at_call 14; (with_reducible refine (testamurref03_Same.calls kj13 _ _ t459 _ _ t400 true _ ?side1 ?side2 ?side3 ?side4 A45.out).mono ?_); (case side1 => repeat (first | exact (Kd.R_reads' HO461.out).2.2 | (with_reducible refine Kd.C_alloc ?_ _) | (with_reducible refine Kd.C_drewN ?_ _) | (with_reducible refine Kd.C_drew ?_))); (case side2 => exact (Kd.R_reads' HO461.out).2.1); (case side3 => repeat (first | exact (Kd.R_reads' HO402.out).2.2 | (with_reducible refine Kd.C_alloc ?_ _) | (with_reducible refine Kd.C_drewN ?_ _) | (with_reducible refine Kd.C_drew ?_))); (case side4 => exact (Kd.R_reads' HO402.out).2.1); refine Aside0.out (p := _) ?_)
                                refine ⟨?_⟩
                                rintro e w' ⟨rfl, ⟨nd, rfl⟩⟩
                                go_wp2_with (go_at_call 19; (with_reducible refine (spans_Meet.calls _ _ l0 _ _ l0 t463 _ ?side1 ?side2 ?side3 ?side4 A47.out).mono ?_); (case side1 => repeat (first | exact (Kd.C_below HR0.out (by repeat (first | (with_reducible first | exact HB.out | apply below_alloc | apply pw_below_drewN | apply below_drew1) | exact HB.out))) | (with_reducible refine Kd.C_alloc ?_ _) | (with_reducible refine Kd.C_drewN ?_ _) | (with_reducible refine Kd.C_drew ?_))); (case side2 => exact HC0.out); (case side3 => repeat (first | exact (Kd.C_below HR0.out (by repeat (first | (with_reducible first | exact HB.out | apply below_alloc | apply pw_below_drewN | apply below_drew1) | exact HB.out))) | (with_reducible refine Kd.C_alloc ?_ _) | (with_reducible refine Kd.C_drewN ?_ _) | (with_reducible refine Kd.C_drew ?_))); (case side4 => exact HC0.out); refine Aside0.out (p := _) ?_)
                                refine ⟨?_⟩
                                rintro e w98 ⟨v464, rfl, ho0, hb⟩
                                have n0_ := Aside0.mk (Kd.R_elder' (by (with_reducible repeat (first | apply Kd.R_alloc | apply Kd.R_drewN | apply Kd.R_drew)); exact HO402.out) (Kd.R_base ho0) hb)
                                have n19_ := Aside0.mk (Kd.R_lower ho0 (below_size (by repeat (first | (with_reducible first | exact HB.out | apply below_alloc | apply pw_below_drewN | apply below_drew1) | exact HB.out))))
                                have n20_ := Aside0.mk (below_step (by repeat (first | (with_reducible first | exact HB.out | apply below_alloc | apply pw_below_drewN | apply below_drew1) | exact HB.out)) hb)
                                clear HO402
                                clear HO461
                                clear HB
                                have HO402 := n0_
                                have HO465 := n19_
                                have HB := n20_
                                clear n0_ n19_ n20_
                                (try clear hb)
                                (try clear hb2)
                                (try clear hk)
                                (try clear hi)
                                (try clear ho0)
                                obtain ⟨Ao99, co99, eo99⟩ := Kd.R_slice HO465.out
                                subst eo99
                                go_wp2_with (go_at_call 14; (with_reducible refine (testamurref03_Same.calls kj13 _ _ t463 _ _ t400 true _ ?side1 ?side2 ?side3 ?side4 A48.out).mono ?_); (case side1 => repeat (first | exact (Kd.R_reads' HO465.out).2.2 | (with_reducible refine Kd.C_alloc ?_ _) | (with_reducible refine Kd.C_drewN ?_ _) | (with_reducible refine Kd.C_drew ?_))); (case side2 => exact (Kd.R_reads' HO465.out).2.1); (case side3 => repeat (first | exact (Kd.R_reads' HO402.out).2.2 | (with_reducible refine Kd.C_alloc ?_ _) | (with_reducible refine Kd.C_drewN ?_ _) | (with_reducible refine Kd.C_drew ?_))); (case side4 => exact (Kd.R_reads' HO402.out).2.1); refine Aside0.out (p := _) ?_)
                                refine ⟨?_⟩
                                rintro e w' ⟨rfl, ⟨nd, rfl⟩⟩
                                go_wp2_with (go_at_call 15; (with_reducible refine (spans_Normal.calls _ _ t400 t467 _ ?side1 ?side2 A50.out).mono ?_); (case side1 => repeat (first | exact (Kd.R_reads' HO402.out).2.2 | (with_reducible refine Kd.C_alloc ?_ _) | (with_reducible refine Kd.C_drewN ?_ _) | (with_reducible refine Kd.C_drew ?_))); (case side2 => exact (Kd.R_reads' HO402.out).2.1); refine Aside0.out (p := _) ?_)
                                refine ⟨?_⟩
                                rintro e w100 ⟨v468, rfl, ho0, hb⟩
                                have n0_ := Aside0.mk (Kd.R_elder' (by (with_reducible repeat (first | apply Kd.R_alloc | apply Kd.R_drewN | apply Kd.R_drew)); exact HO402.out) (Kd.R_base ho0) hb)
                                have n20_ := Aside0.mk (Kd.R_lower ho0 (below_size (by repeat (first | (with_reducible first | exact HB.out | apply below_alloc | apply pw_below_drewN | apply below_drew1) | exact HB.out))))
                                have n21_ := Aside0.mk (below_step (by repeat (first | (with_reducible first | exact HB.out | apply below_alloc | apply pw_below_drewN | apply below_drew1) | exact HB.out)) hb)
                                clear HO402
                                clear HO465
                                clear HB
                                have HO402 := n0_
                                have HO469 := n20_
                                have HB := n21_
                                clear n0_ n20_ n21_
                                (try clear hb)
                                (try clear hb2)
                                (try clear hk)
                                (try clear hi)
                                (try clear ho0)
                                obtain ⟨Ao101, co101, eo101⟩ := Kd.R_slice HO469.out
                                subst eo101
                                go_wp2_with (go_at_call 14; (with_reducible refine (testamurref03_Same.calls kj13 _ _ t467 _ _ t400 true _ ?side1 ?side2 ?side3 ?side4 A51.out).mono ?_); (case side1 => repeat (first | exact (Kd.R_reads' HO469.out).2.2 | (with_reducible refine Kd.C_alloc ?_ _) | (with_reducible refine Kd.C_drewN ?_ _) | (with_reducible refine Kd.C_drew ?_))); (case side2 => exact (Kd.R_reads' HO469.out).2.1); (case side3 => repeat (first | exact (Kd.R_reads' HO402.out).2.2 | (with_reducible refine Kd.C_alloc ?_ _) | (with_reducible refine Kd.C_drewN ?_ _) | (with_reducible refine Kd.C_drew ?_))); (case side4 => exact (Kd.R_reads' HO402.out).2.1); refine Aside0.out (p := _) ?_)
                                refine ⟨?_⟩
                                rintro e w' ⟨rfl, ⟨nd, rfl⟩⟩
                                go_wp2_with (go_at_call 17; (with_reducible refine (spans_Union.calls _ _ l1 _ _ l2 t471 _ ?side1 ?side2 ?side3 ?side4 A53.out).mono ?_); (case side1 => repeat (first | exact (Kd.C_below HR1.out (by repeat (first | (with_reducible first | exact HB.out | apply below_alloc | apply pw_below_drewN | apply below_drew1) | exact HB.out))) | (with_reducible refine Kd.C_alloc ?_ _) | (with_reducible refine Kd.C_drewN ?_ _) | (with_reducible refine Kd.C_drew ?_))); (case side2 => exact HC1.out); (case side3 => repeat (first | exact (Kd.C_below HR2.out (by repeat (first | (with_reducible first | exact HB.out | apply below_alloc | apply pw_below_drewN | apply below_drew1) | exact HB.out))) | (with_reducible refine Kd.C_alloc ?_ _) | (with_reducible refine Kd.C_drewN ?_ _) | (with_reducible refine Kd.C_drew ?_))); (case side4 => exact HC2.out); refine Aside0.out (p := _) ?_)
                                refine ⟨?_⟩
                                rintro e w102 ⟨v472, rfl, ho0, hb⟩
                                have n21_ := Aside0.mk (Kd.R_lower ho0 (below_size (by repeat (first | (with_reducible first | exact HB.out | apply below_alloc | apply pw_below_drewN | apply below_drew1) | exact HB.out))))
                                have n22_ := Aside0.mk (below_step (by repeat (first | (with_reducible first | exact HB.out | apply below_alloc | apply pw_below_drewN | apply below_drew1) | exact HB.out)) hb)
                                clear HO402
                                clear HO469
                                clear HB
                                have HO473 := n21_
                                have HB := n22_
                                clear n21_ n22_
                                (try clear hb)
                                (try clear hb2)
                                (try clear hk)
                                (try clear hi)
                                (try clear ho0)
                                obtain ⟨Ao103, co103, eo103⟩ := Kd.R_slice HO473.out
                                subst eo103
                                go_wp2_with (go_at_call 21; (with_reducible refine (spans_Minus.calls _ _ l0 _ _ t471 t474 _ ?side1 ?side2 ?side3 ?side4 A54.out).mono ?_); (case side1 => repeat (first | exact (Kd.C_below HR0.out HB.out) | (with_reducible refine Kd.C_alloc ?_ _) | (with_reducible refine Kd.C_drewN ?_ _) | (with_reducible refine Kd.C_drew ?_))); (case side2 => exact HC0.out); (case side3 => repeat (first | exact (Kd.R_reads' HO473.out).2.2 | (with_reducible refine Kd.C_alloc ?_ _) | (with_reducible refine Kd.C_drewN ?_ _) | (with_reducible refine Kd.C_drew ?_))); (case side4 => exact (Kd.R_reads' HO473.out).2.1); refine Aside0.out (p := _) ?_)
                                refine ⟨?_⟩
                                rintro e w104 ⟨v475, rfl, ho0, hb⟩
                                have n22_ := Aside0.mk (Kd.R_lower ho0 (below_size (by repeat (first | (with_reducible first | exact HB.out | apply below_alloc | apply pw_below_drewN | apply below_drew1) | exact HB.out))))
                                have n23_ := Aside0.mk (below_step (by repeat (first | (with_reducible first | exact HB.out | apply below_alloc | apply pw_below_drewN | apply below_drew1) | exact HB.out)) hb)
                                clear HO473
                                clear HB
                                have HO476 := n22_
                                have HB := n23_
                                clear n22_ n23_
                                (try clear hb)
                                (try clear hb2)
                                (try clear hk)
                                (try clear hi)
                                (try clear ho0)
                                go_wp2_with (go_at_call 21; (with_reducible refine (spans_Minus.calls _ _ l0 _ _ l1 t477 _ ?side1 ?side2 ?side3 ?side4 A55.out).mono ?_); (case side1 => repeat (first | exact (Kd.C_below HR0.out HB.out) | (with_reducible refine Kd.C_alloc ?_ _) | (with_reducible refine Kd.C_drewN ?_ _) | (with_reducible refine Kd.C_drew ?_))); (case side2 => exact HC0.out); (case side3 => repeat (first | exact (Kd.C_below HR1.out HB.out) | (with_reducible refine Kd.C_alloc ?_ _) | (with_reducible refine Kd.C_drewN ?_ _) | (with_reducible refine Kd.C_drew ?_))); (case side4 => exact HC1.out); refine Aside0.out (p := _) ?_)
                                refine ⟨?_⟩
                                rintro e w105 ⟨v478, rfl, ho0, hb⟩
                                have n22_ := Aside0.mk (Kd.R_elder' (by (with_reducible repeat (first | apply Kd.R_alloc | apply Kd.R_drewN | apply Kd.R_drew)); exact HO476.out) (Kd.R_base ho0) hb)
                                have n23_ := Aside0.mk (Kd.R_lower ho0 (below_size (by repeat (first | (with_reducible first | exact HB.out | apply below_alloc | apply pw_below_drewN | apply below_drew1) | exact HB.out))))
                                have n24_ := Aside0.mk (below_step (by repeat (first | (with_reducible first | exact HB.out | apply below_alloc | apply pw_below_drewN | apply below_drew1) | exact HB.out)) hb)
                                clear HO476
                                clear HB
                                have HO476 := n22_
                                have HO479 := n23_
                                have HB := n24_
                                clear n22_ n23_ n24_
                                (try clear hb)
                                (try clear hb2)
                                (try clear hk)
                                (try clear hi)
                                (try clear ho0)
                                obtain ⟨Ao106, co106, eo106⟩ := Kd.R_slice HO479.out
                                subst eo106
                                go_wp2_with (go_at_call 21; (with_reducible refine (spans_Minus.calls _ _ t477 _ _ l2 t480 _ ?side1 ?side2 ?side3 ?side4 A56.out).mono ?_); (case side1 => repeat (first | exact (Kd.R_reads' HO479.out).2.2 | (with_reducible refine Kd.C_alloc ?_ _) | (with_reducible refine Kd.C_drewN ?_ _) | (with_reducible refine Kd.C_drew ?_))); (case side2 => exact (Kd.R_reads' HO479.out).2.1); (case side3 => repeat (first | exact (Kd.C_below HR2.out HB.out) | (with_reducible refine Kd.C_alloc ?_ _) | (with_reducible refine Kd.C_drewN ?_ _) | (with_reducible refine Kd.C_drew ?_))); (case side4 => exact HC2.out); refine Aside0.out (p := _) ?_)
                                refine ⟨?_⟩
                                rintro e w107 ⟨v481, rfl, ho0, hb⟩
                                have n22_ := Aside0.mk (Kd.R_elder' (by (with_reducible repeat (first | apply Kd.R_alloc | apply Kd.R_drewN | apply Kd.R_drew)); exact HO476.out) (Kd.R_base ho0) hb)
                                have n24_ := Aside0.mk (Kd.R_lower ho0 (below_size (by repeat (first | (with_reducible first | exact HB.out | apply below_alloc | apply pw_below_drewN | apply below_drew1) | exact HB.out))))
                                have n25_ := Aside0.mk (below_step (by repeat (first | (with_reducible first | exact HB.out | apply below_alloc | apply pw_below_drewN | apply below_drew1) | exact HB.out)) hb)
                                clear HO476
                                clear HO479
                                clear HB
                                have HO476 := n22_
                                have HO482 := n24_
                                have HB := n25_
                                clear n22_ n24_ n25_
                                (try clear hb)
                                (try clear hb2)
                                (try clear hk)
                                (try clear hi)
                                (try clear ho0)
                                obtain ⟨Ao108, co108, eo108⟩ := Kd.R_slice HO476.out
                                subst eo108
                                obtain ⟨Ao109, co109, eo109⟩ := Kd.R_slice HO482.out
                                subst eo109
                                go_wp2_with (go_at_call 14; (with_reducible refine (testamurref03_Same.calls kj13 _ _ t474 _ _ t480 true _ ?side1 ?side2 ?side3 ?side4 A57.out).mono ?_); (case side1 => repeat (first | exact (Kd.R_reads' HO476.out).2.2 | (with_reducible refine Kd.C_alloc ?_ _) | (with_reducible refine Kd.C_drewN ?_ _) | (with_reducible refine Kd.C_drew ?_))); (case side2 => exact (Kd.R_reads' HO476.out).2.1); (case side3 => repeat (first | exact (Kd.R_reads' HO482.out).2.2 | (with_reducible refine Kd.C_alloc ?_ _) | (with_reducible refine Kd.C_drewN ?_ _) | (with_reducible refine Kd.C_drew ?_))); (case side4 => exact (Kd.R_reads' HO482.out).2.1); refine Aside0.out (p := _) ?_)
                                refine ⟨?_⟩
                                rintro e w' ⟨rfl, ⟨nd, rfl⟩⟩
                                go_wp2_with (go_at_call 21; (with_reducible refine (spans_Minus.calls _ _ l0 _ _ l0 t484 _ ?side1 ?side2 ?side3 ?side4 A59.out).mono ?_); (case side1 => repeat (first | exact (Kd.C_below HR0.out (by repeat (first | (with_reducible first | exact HB.out | apply below_alloc | apply pw_below_drewN | apply below_drew1) | exact HB.out))) | (with_reducible refine Kd.C_alloc ?_ _) | (with_reducible refine Kd.C_drewN ?_ _) | (with_reducible refine Kd.C_drew ?_))); (case side2 => exact HC0.out); (case side3 => repeat (first | exact (Kd.C_below HR0.out (by repeat (first | (with_reducible first | exact HB.out | apply below_alloc | apply pw_below_drewN | apply below_drew1) | exact HB.out))) | (with_reducible refine Kd.C_alloc ?_ _) | (with_reducible refine Kd.C_drewN ?_ _) | (with_reducible refine Kd.C_drew ?_))); (case side4 => exact HC0.out); refine Aside0.out (p := _) ?_)
                                refine ⟨?_⟩
                                rintro e w110 ⟨v485, rfl, ho0, hb⟩
                                have n25_ := Aside0.mk (Kd.R_lower ho0 (below_size (by repeat (first | (with_reducible first | exact HB.out | apply below_alloc | apply pw_below_drewN | apply below_drew1) | exact HB.out))))
                                have n26_ := Aside0.mk (below_step (by repeat (first | (with_reducible first | exact HB.out | apply below_alloc | apply pw_below_drewN | apply below_drew1) | exact HB.out)) hb)
                                clear HO476
                                clear HO482
                                clear HB
                                have HO486 := n25_
                                have HB := n26_
                                clear n25_ n26_
                                (try clear hb)
                                (try clear hb2)
                                (try clear hk)
                                (try clear hi)
                                (try clear ho0)
                                obtain ⟨Ao111, co111, eo111⟩ := Kd.R_slice HO486.out
                                subst eo111
                                go_wp2
                                go_ret
                                exact ⟨by first | rfl | (simp [errW_none, errW_some] <;> rfl) | (simp [*, errW_none, errW_some] <;> rfl), by repeat (first | (with_reducible first | exact HB.out | apply below_alloc | apply pw_below_drewN | apply below_drew1) | exact HB.out)⟩
                              · replace c58 := Bool.eq_false_iff.mpr c58
                                subst c58
                                have H1 : (none) = some r := by rw [if_neg (show ¬ (false = true) by decide)] at H; exact H
                                clear H
                                have H := H1
                                clear H1
                                exact absurd H (by simp)
                            · replace c52 := Bool.eq_false_iff.mpr c52
                              subst c52
                              have H1 : (none) = some r := by rw [if_neg (show ¬ (false = true) by decide)] at H; exact H
                              clear H
                              have H := H1
                              clear H1
                              exact absurd H (by simp)
                          · replace c49 := Bool.eq_false_iff.mpr c49
                            subst c49
                            have H1 : (none) = some r := by rw [if_neg (show ¬ (false = true) by decide)] at H; exact H
                            clear H
                            have H := H1
                            clear H1
                            exact absurd H (by simp)
                        · replace c46 := Bool.eq_false_iff.mpr c46
                          subst c46
                          have H1 : (none) = some r := by rw [if_neg (show ¬ (false = true) by decide)] at H; exact H
                          clear H
                          have H := H1
                          clear H1
                          exact absurd H (by simp)
                      · replace c43 := Bool.eq_false_iff.mpr c43
                        subst c43
                        have H1 : (none) = some r := by rw [if_neg (show ¬ (false = true) by decide)] at H; exact H
                        clear H
                        have H := H1
                        clear H1
                        exact absurd H (by simp)
                    · replace c36 := Bool.eq_false_iff.mpr c36
                      subst c36
                      have H1 : (none) = some r := by rw [if_neg (show ¬ (false = true) by decide)] at H; exact H
                      clear H
                      have H := H1
                      clear H1
                      exact absurd H (by simp)
                  · replace c30 := Bool.eq_false_iff.mpr c30
                    subst c30
                    have H1 : (none) = some r := by rw [if_neg (show ¬ (false = true) by decide)] at H; exact H
                    clear H
                    have H := H1
                    clear H1
                    exact absurd H (by simp)
                · replace c24 := Bool.eq_false_iff.mpr c24
                  subst c24
                  have H1 : (none) = some r := by rw [if_neg (show ¬ (false = true) by decide)] at H; exact H
                  clear H
                  have H := H1
                  clear H1
                  exact absurd H (by simp)
              · replace c20 := Bool.eq_false_iff.mpr c20
                subst c20
                have H1 : (none) = some r := by rw [if_neg (show ¬ (false = true) by decide)] at H; exact H
                clear H
                have H := H1
                clear H1
                exact absurd H (by simp)

end Go.Proofs.Ytcemfklhbgnflaa.P
