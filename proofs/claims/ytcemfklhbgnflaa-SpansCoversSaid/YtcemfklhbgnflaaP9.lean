-- printed by gprint.py (a program of this seat over the kit's print.py): Lean checks it
import Derived.Test.YtcemfklhbgnflaaP0
import Derived.Test.YtcemfklhbgnflaaP2
import Derived.Test.YtcemfklhbgnflaaP3
import Derived.Test.YtcemfklhbgnflaaP4
import Derived.Test.YtcemfklhbgnflaaG
import Derived.Test.YtcemfklhbgnflaaH
namespace Go.Proofs.Ytcemfklhbgnflaa.P
open Go.RowKit Go.Proofs.YtcemfklhbgnflaaW.PrintWords Go.Proofs.YtcemfklhbgnflaaW.PrintLast Go.Proofs.YtcemfklhbgnflaaW.PrintMore
attribute [local go_sem] max2_int min2_int max_two min_two max_three min_three max_four min_four   -- for this text's walks alone
set_option linter.unusedVariables false
set_option linter.unusedSimpArgs false

/-! ### testamurlaw03_SpansDivide: function 8 -/
mutual
def testamurlaw03_SpansDivide.j0 : Nat → List (S31) → List (S31) → Option (Bool)
  | 0, _, _ => none
  | k + 1, x0, x1 => (testamurref03_Few.f x0).bind fun t446 => (if t446 = true then ((testamurref03_Few.f x1).bind fun t447 => (testamurlaw03_SpansDivide.j1 k x0 x1 (!t447))) else (testamurlaw03_SpansDivide.j1 k x0 x1 true))
def testamurlaw03_SpansDivide.j1 : Nat → List (S31) → List (S31) → Bool → Option (Bool)
  | 0, _, _, _ => none
  | k + 1, x0, x1, x16 => if x16 = true then (some true) else (testamurlaw03_SpansDivide.j2 k x0 x1)
def testamurlaw03_SpansDivide.j2 : Nat → List (S31) → List (S31) → Option (Bool)
  | 0, _, _ => none
  | k + 1, x0, x1 => (spans_Minus.f x0 x1).bind fun t448 => ((spans_Meet.f x0 x1).bind fun t451 => ((spans_Meet.f t448 t451).bind fun t454 => (if (t454.length : Int) = 0 then ((spans_Meet.f t448 x1).bind fun t457 => (if (t457.length : Int) = 0 then ((spans_Union.f t448 t451).bind fun t460 => ((spans_Normal.f x0).bind fun t463 => ((testamurref03_Same.f k t460 t463).bind fun t466 => (if t466 = true then ((spans_Union.f t448 x1).bind fun t467 => ((spans_Union.f x0 x1).bind fun t470 => ((testamurref03_Same.f k t467 t470).bind fun t473 => (some t473)))) else (none))))) else (none))) else (none))))
end
def testamurlaw03_SpansDivide.f (k : Nat) (l0 : List (S31)) (l1 : List (S31)) : Option (Bool) := (testamurlaw03_sane.f k).bind fun t445 => (if t445 = true then (testamurlaw03_SpansDivide.j0 k l0 l1) else (none))
theorem testamurlaw03_SpansDivide.mono_l : ∀ k, (∀ y0 y1, LeO (testamurlaw03_SpansDivide.j0 k y0 y1) (testamurlaw03_SpansDivide.j0 (k + 1) y0 y1)) ∧ (∀ y0 y1 y2, LeO (testamurlaw03_SpansDivide.j1 k y0 y1 y2) (testamurlaw03_SpansDivide.j1 (k + 1) y0 y1 y2)) ∧ (∀ y0 y1, LeO (testamurlaw03_SpansDivide.j2 k y0 y1) (testamurlaw03_SpansDivide.j2 (k + 1) y0 y1))
  | 0 => ⟨fun _ _ r h => by simp [testamurlaw03_SpansDivide.j0] at h, fun _ _ _ r h => by simp [testamurlaw03_SpansDivide.j1] at h, fun _ _ r h => by simp [testamurlaw03_SpansDivide.j2] at h⟩
  | k + 1 => by
    obtain ⟨ih0, ih1, ih2⟩ := testamurlaw03_SpansDivide.mono_l k
    refine ⟨?_, ?_, ?_⟩
    · intro y0 y1
      unfold testamurlaw03_SpansDivide.j0
      repeat' first
      | (with_reducible exact ih0 _ _)
      | (with_reducible exact ih1 _ _ _)
      | (with_reducible exact ih2 _ _)
      | (with_reducible exact testamurlaw03_sane.mono _)
      | (with_reducible exact testamurref03_Same.mono _ _ _)
      | (with_reducible exact LeO.refl _)
      | (with_reducible exact LeO.none _)
      | (with_reducible refine LeO.ite ?_ ?_)
      | (with_reducible refine LeO.bind ?_ (fun _ => ?_))
      | exact ih0 _ _
      | exact ih1 _ _ _
      | exact ih2 _ _
      | exact testamurlaw03_sane.mono _
      | exact testamurref03_Same.mono _ _ _
      | exact LeO.none _
      | refine LeO.ite ?_ ?_
      | refine LeO.bind ?_ (fun _ => ?_)
    · intro y0 y1 y2
      unfold testamurlaw03_SpansDivide.j1
      repeat' first
      | (with_reducible exact ih0 _ _)
      | (with_reducible exact ih1 _ _ _)
      | (with_reducible exact ih2 _ _)
      | (with_reducible exact testamurlaw03_sane.mono _)
      | (with_reducible exact testamurref03_Same.mono _ _ _)
      | (with_reducible exact LeO.refl _)
      | (with_reducible exact LeO.none _)
      | (with_reducible refine LeO.ite ?_ ?_)
      | (with_reducible refine LeO.bind ?_ (fun _ => ?_))
      | exact ih0 _ _
      | exact ih1 _ _ _
      | exact ih2 _ _
      | exact testamurlaw03_sane.mono _
      | exact testamurref03_Same.mono _ _ _
      | exact LeO.none _
      | refine LeO.ite ?_ ?_
      | refine LeO.bind ?_ (fun _ => ?_)
    · intro y0 y1
      unfold testamurlaw03_SpansDivide.j2
      repeat' first
      | (with_reducible exact ih0 _ _)
      | (with_reducible exact ih1 _ _ _)
      | (with_reducible exact ih2 _ _)
      | (with_reducible exact testamurlaw03_sane.mono _)
      | (with_reducible exact testamurref03_Same.mono _ _ _)
      | (with_reducible exact LeO.refl _)
      | (with_reducible exact LeO.none _)
      | (with_reducible refine LeO.ite ?_ ?_)
      | (with_reducible refine LeO.bind ?_ (fun _ => ?_))
      | exact ih0 _ _
      | exact ih1 _ _ _
      | exact ih2 _ _
      | exact testamurlaw03_sane.mono _
      | exact testamurref03_Same.mono _ _ _
      | exact LeO.none _
      | refine LeO.ite ?_ ?_
      | refine LeO.bind ?_ (fun _ => ?_)
theorem testamurlaw03_SpansDivide.mono : ∀ a0 a1 k, LeO (testamurlaw03_SpansDivide.f k a0 a1) (testamurlaw03_SpansDivide.f (k + 1) a0 a1) := by
  intro a0 a1 k
  obtain ⟨ih0, ih1, ih2⟩ := testamurlaw03_SpansDivide.mono_l k
  unfold testamurlaw03_SpansDivide.f
  repeat' first
      | (with_reducible exact ih0 _ _)
      | (with_reducible exact ih1 _ _ _)
      | (with_reducible exact ih2 _ _)
      | (with_reducible exact testamurlaw03_sane.mono _)
      | (with_reducible exact testamurref03_Same.mono _ _ _)
      | (with_reducible exact LeO.refl _)
      | (with_reducible exact LeO.none _)
      | (with_reducible refine LeO.ite ?_ ?_)
      | (with_reducible refine LeO.bind ?_ (fun _ => ?_))
      | exact ih0 _ _
      | exact ih1 _ _ _
      | exact ih2 _ _
      | exact testamurlaw03_sane.mono _
      | exact testamurref03_Same.mono _ _ _
      | exact LeO.none _
      | refine LeO.ite ?_ ?_
      | refine LeO.bind ?_ (fun _ => ?_)
set_option maxHeartbeats 8000000 in
set_option maxRecDepth 100000 in
theorem testamurlaw03_SpansDivide.calls (k : Nat) (A0 : Option Addr) (c0 : Nat) (l0 : List (S31)) (A1 : Option Addr) (c1 : Nat) (l1 : List (S31)) (r : Bool) (w : World) (hr0 : Kd.C k31 w A0 l0.length l0) (hc0 : l0.length ≤ c0) (hr1 : Kd.C k31 w A1 l1.length l1) (hc1 : l1.length ≤ c1) (h : testamurlaw03_SpansDivide.f k l0 l1 = some r) :
    Calls Try.prog 8 #[.slice A0 l0.length c0, .slice A1 l1.length c1] w fun e w' => e = .returned (.bool r) ∧ Below w.heap.size w w' := by
  have HR0 := Aside0.mk hr0
  have HC0 := Aside0.mk hc0
  clear hr0 hc0
  have HR1 := Aside0.mk hr1
  have HC1 := Aside0.mk hc1
  clear hr1 hc1
  have HB := Aside0.mk (Below.refl w.heap.size w)
  have H : ((testamurlaw03_sane.f k).bind fun t445 => (if t445 = true then (testamurlaw03_SpansDivide.j0 k l0 l1) else (none))) = some r := h
  clear h
  replace H := Option.bind_eq_some_iff.mp H
  obtain ⟨t445, A30, H⟩ := H
  replace H : (if t445 = true then (testamurlaw03_SpansDivide.j0 k l0 l1) else (none)) = some r := H
  have A3 := Aside0.mk A30
  clear A30
  have HC4 := Aside0.mk H
  clear H
  go_enter Try.func8, Try.ntmps8
  try simp only [List.append]
  go_upto_if 8 with (first | ((with_reducible refine gate_callee (f := 10) rfl ?_); refine goesL_ (some 7) rfl rfl Try.func10 (by kernel_rfl) rfl #[] rfl (by (try simp only [List.map_toArray, List.map_cons, List.map_nil]); first | done | rfl | (simp only [List.length_drop, List.length_take]; rfl)) ?_; (with_reducible refine (testamurlaw03_sane.calls k  t445 _ A3.out).mono ?_); rintro e w5 ⟨rfl, hb⟩; refine ⟨_, rfl, ?_⟩; have n0_ := Aside0.mk (below_step (by repeat (first | (with_reducible first | exact HB.out | apply below_alloc | apply pw_below_drewN | apply below_drew1) | exact HB.out)) hb); clear HB; have HB := n0_; clear n0_; (try clear hb); (try clear hb2); (try clear hk); (try clear hi)))
  (try simp only [Act.put, List.setIfInBounds_toArray, List.set_cons_zero, List.set_cons_succ])
  go_cut [] (fun wc => ∃ (kq : Nat), Aside0 (testamurlaw03_SpansDivide.j0 kq l0 l1 = some r) ∧ Aside0 (kq ≤ k) ∧ Aside0 (Below w.heap.size w wc))
  case first =>
    have H := HC4.out
    clear HC4
    by_cases c6 : t445 = true
    · subst c6
      have H1 : (testamurlaw03_SpansDivide.j0 k l0 l1) = some r := by rw [if_pos rfl] at H; exact H
      clear H
      have H := H1
      clear H1
      have H' := Aside0.mk H
      clear H
      go_wp2
      go_meet
      case rel => exact ⟨_, H', ⟨by first | omega | exact Nat.le_refl _⟩, ⟨by repeat (first | (with_reducible first | exact HB.out | apply below_alloc | apply pw_below_drewN | apply below_drew1) | exact HB.out)⟩⟩
    · replace c6 := Bool.eq_false_iff.mpr c6
      subst c6
      have H1 : (none) = some r := by rw [if_neg (show ¬ (false = true) by decide)] at H; exact H
      clear H
      have H := H1
      clear H1
      exact absurd H (by simp)
  case rest =>
    clear HC4
    try clear c1
    try clear p2
    try clear c6
    obtain ⟨kq, HA, HJ3, HB⟩ := hcut
    cases kq with
    | zero => exact absurd HA.out (by simp [testamurlaw03_SpansDivide.j0])
    | succ kj3 =>
      have H := HA.out
      clear HA
      simp only [testamurlaw03_SpansDivide.j0] at H
      have HC7 := Aside0.mk H
      clear H
      go_upto_region 3 with (fail)
      go_cut [16] (fun v16 wc => ∃ (kq : Nat) (x16_6 : Bool), v16 = .bool x16_6 ∧ Aside0 (testamurlaw03_SpansDivide.j1 kq l0 l1 x16_6 = some r) ∧ Aside0 (kq ≤ kj3) ∧ Aside0 (Below w.heap.size w wc))
      case first =>
        have H := HC7.out
        clear HC7
        replace H := Option.bind_eq_some_iff.mp H
        obtain ⟨t446, A80, H⟩ := H
        replace H : (if t446 = true then ((testamurref03_Few.f l1).bind fun t447 => (testamurlaw03_SpansDivide.j1 kj3 l0 l1 (!t447))) else (testamurlaw03_SpansDivide.j1 kj3 l0 l1 true)) = some r := H
        have A8 := Aside0.mk A80
        clear A80
        by_cases c9 : t446 = true
        · subst c9
          have H1 : ((testamurref03_Few.f l1).bind fun t447 => (testamurlaw03_SpansDivide.j1 kj3 l0 l1 (!t447))) = some r := by rw [if_pos rfl] at H; exact H
          clear H
          have H := H1
          clear H1
          replace H := Option.bind_eq_some_iff.mp H
          obtain ⟨t447, A100, H⟩ := H
          replace H : (testamurlaw03_SpansDivide.j1 kj3 l0 l1 (!t447)) = some r := H
          have A10 := Aside0.mk A100
          clear A100
          have H' := Aside0.mk H
          clear H
          go_wp2_with ((with_reducible refine gate_callee (f := 11) rfl ?_); refine Aside0.out (p := _) ?_)
          refine ⟨?_⟩
          refine goesL_ (some 10) rfl rfl Try.func11 (by kernel_rfl) rfl #[.slice A0 l0.length c0] rfl (by (try simp only [List.map_toArray, List.map_cons, List.map_nil]); first | done | rfl | (simp only [List.length_drop, List.length_take]; rfl)) ?_
          (with_reducible refine (testamurref03_Few.calls _ _ l0 true _ ?side1 ?side2 A8.out).mono ?_)
          (case side1 => repeat (first | exact (Kd.C_below HR0.out HB.out) | (with_reducible refine Kd.C_alloc ?_ _) | (with_reducible refine Kd.C_drewN ?_ _) | (with_reducible refine Kd.C_drew ?_)))
          (case side2 => exact HC0.out)
          rintro e w' ⟨rfl, ⟨nd, rfl⟩⟩
          refine ⟨_, rfl, ?_⟩
          go_wp2_with (go_at_call 11; (with_reducible refine (testamurref03_Few.calls _ _ l1 t447 _ ?side1 ?side2 A10.out).mono ?_); (case side1 => repeat (first | exact (Kd.C_below HR1.out (by repeat (first | (with_reducible first | exact HB.out | apply below_alloc | apply pw_below_drewN | apply below_drew1) | exact HB.out))) | (with_reducible refine Kd.C_alloc ?_ _) | (with_reducible refine Kd.C_drewN ?_ _) | (with_reducible refine Kd.C_drew ?_))); (case side2 => exact HC1.out); refine Aside0.out (p := _) ?_)
          refine ⟨?_⟩
          rintro e w' ⟨rfl, ⟨nd, rfl⟩⟩
          go_wp2
          go_meet
          case rel => exact ⟨_, (!t447), (by first | rfl | (simp; done) | (simp [*]; done)), H', ⟨by have := HJ3.out; first | omega | exact Nat.le_refl _⟩, ⟨by repeat (first | (with_reducible first | exact HB.out | apply below_alloc | apply pw_below_drewN | apply below_drew1) | exact HB.out)⟩⟩
        · replace c9 := Bool.eq_false_iff.mpr c9
          subst c9
          have H1 : (testamurlaw03_SpansDivide.j1 kj3 l0 l1 true) = some r := by rw [if_neg (show ¬ (false = true) by decide)] at H; exact H
          clear H
          have H := H1
          clear H1
          have H' := Aside0.mk H
          clear H
          go_wp2_with ((with_reducible refine gate_callee (f := 11) rfl ?_); refine Aside0.out (p := _) ?_)
          refine ⟨?_⟩
          refine goesL_ (some 10) rfl rfl Try.func11 (by kernel_rfl) rfl #[.slice A0 l0.length c0] rfl (by (try simp only [List.map_toArray, List.map_cons, List.map_nil]); first | done | rfl | (simp only [List.length_drop, List.length_take]; rfl)) ?_
          (with_reducible refine (testamurref03_Few.calls _ _ l0 false _ ?side1 ?side2 A8.out).mono ?_)
          (case side1 => repeat (first | exact (Kd.C_below HR0.out HB.out) | (with_reducible refine Kd.C_alloc ?_ _) | (with_reducible refine Kd.C_drewN ?_ _) | (with_reducible refine Kd.C_drew ?_)))
          (case side2 => exact HC0.out)
          rintro e w' ⟨rfl, ⟨nd, rfl⟩⟩
          refine ⟨_, rfl, ?_⟩
          go_wp2
          go_meet
          case rel => exact ⟨_, (true), (by first | rfl | (simp; done) | (simp [*]; done)), H', ⟨by have := HJ3.out; first | omega | exact Nat.le_refl _⟩, ⟨by repeat (first | (with_reducible first | exact HB.out | apply below_alloc | apply pw_below_drewN | apply below_drew1) | exact HB.out)⟩⟩
      case rest =>
        clear HC7
        try clear c1
        try clear p2
        try clear c6
        try clear c8
        try clear c9
        try clear c10
        try clear p2
        obtain ⟨kq, x16_6, rfl, HA, HJ6, HB⟩ := hcut
        cases kq with
        | zero => exact absurd HA.out (by simp [testamurlaw03_SpansDivide.j1])
        | succ kj6 =>
          have H := HA.out
          clear HA
          simp only [testamurlaw03_SpansDivide.j1] at H
          have HC11 := Aside0.mk H
          clear H
          go_upto_if 16 with (fail)
          go_cut [] (fun wc => ∃ (kq : Nat), Aside0 (testamurlaw03_SpansDivide.j2 kq l0 l1 = some r) ∧ Aside0 (kq ≤ kj6) ∧ Aside0 (Below w.heap.size w wc))
          case first =>
            have H := HC11.out
            clear HC11
            by_cases c12 : x16_6 = true
            · subst c12
              have H1 : (some true) = some r := by rw [if_pos rfl] at H; exact H
              clear H
              have H := H1
              clear H1
              obtain rfl := Option.some.inj H
              go_wp2
              go_ret
              exact ⟨by first | rfl | (simp [errW_none, errW_some] <;> rfl) | (simp [*, errW_none, errW_some] <;> rfl), by repeat (first | (with_reducible first | exact HB.out | apply below_alloc | apply pw_below_drewN | apply below_drew1) | exact HB.out)⟩
            · replace c12 := Bool.eq_false_iff.mpr c12
              subst c12
              have H1 : (testamurlaw03_SpansDivide.j2 kj6 l0 l1) = some r := by rw [if_neg (show ¬ (false = true) by decide)] at H; exact H
              clear H
              have H := H1
              clear H1
              have H' := Aside0.mk H
              clear H
              go_wp2
              go_meet
              case rel => exact ⟨_, H', ⟨by have := HJ3.out; have := HJ6.out; first | omega | exact Nat.le_refl _⟩, ⟨by repeat (first | (with_reducible first | exact HB.out | apply below_alloc | apply pw_below_drewN | apply below_drew1) | exact HB.out)⟩⟩
          case rest =>
            clear HC11
            try clear c1
            try clear p2
            try clear c6
            try clear c8
            try clear c9
            try clear c10
            try clear c11
            try clear c12
            try clear p2
            obtain ⟨kq, HA, HJ10, HB⟩ := hcut
            cases kq with
            | zero => exact absurd HA.out (by simp [testamurlaw03_SpansDivide.j2])
            | succ kj10 =>
              have H := HA.out
              clear HA
              simp only [testamurlaw03_SpansDivide.j2] at H
              replace H := Option.bind_eq_some_iff.mp H
              obtain ⟨t448, A130, H⟩ := H
              replace H : ((spans_Meet.f l0 l1).bind fun t451 => ((spans_Meet.f t448 t451).bind fun t454 => (if (t454.length : Int) = 0 then ((spans_Meet.f t448 l1).bind fun t457 => (if (t457.length : Int) = 0 then ((spans_Union.f t448 t451).bind fun t460 => ((spans_Normal.f l0).bind fun t463 => ((testamurref03_Same.f kj10 t460 t463).bind fun t466 => (if t466 = true then ((spans_Union.f t448 l1).bind fun t467 => ((spans_Union.f l0 l1).bind fun t470 => ((testamurref03_Same.f kj10 t467 t470).bind fun t473 => (some t473)))) else (none))))) else (none))) else (none)))) = some r := H
              have A13 := Aside0.mk A130
              clear A130
              replace H := Option.bind_eq_some_iff.mp H
              obtain ⟨t451, A140, H⟩ := H
              replace H : ((spans_Meet.f t448 t451).bind fun t454 => (if (t454.length : Int) = 0 then ((spans_Meet.f t448 l1).bind fun t457 => (if (t457.length : Int) = 0 then ((spans_Union.f t448 t451).bind fun t460 => ((spans_Normal.f l0).bind fun t463 => ((testamurref03_Same.f kj10 t460 t463).bind fun t466 => (if t466 = true then ((spans_Union.f t448 l1).bind fun t467 => ((spans_Union.f l0 l1).bind fun t470 => ((testamurref03_Same.f kj10 t467 t470).bind fun t473 => (some t473)))) else (none))))) else (none))) else (none))) = some r := H
              have A14 := Aside0.mk A140
              clear A140
              replace H := Option.bind_eq_some_iff.mp H
              obtain ⟨t454, A150, H⟩ := H
              replace H : (if (t454.length : Int) = 0 then ((spans_Meet.f t448 l1).bind fun t457 => (if (t457.length : Int) = 0 then ((spans_Union.f t448 t451).bind fun t460 => ((spans_Normal.f l0).bind fun t463 => ((testamurref03_Same.f kj10 t460 t463).bind fun t466 => (if t466 = true then ((spans_Union.f t448 l1).bind fun t467 => ((spans_Union.f l0 l1).bind fun t470 => ((testamurref03_Same.f kj10 t467 t470).bind fun t473 => (some t473)))) else (none))))) else (none))) else (none)) = some r := H
              have A15 := Aside0.mk A150
              clear A150
              by_cases c16 : (t454.length : Int) = 0
              · rw [if_pos c16] at H
                have c16b0 : ((t454.length : Int) == 0) = true := beq_iff_eq.mpr c16
                have c16b1 : ((t454.length : Int) != 0) = false := bne_eq_false_iff_eq.mpr c16
                clear c16
                replace H := Option.bind_eq_some_iff.mp H
                obtain ⟨t457, A170, H⟩ := H
                replace H : (if (t457.length : Int) = 0 then ((spans_Union.f t448 t451).bind fun t460 => ((spans_Normal.f l0).bind fun t463 => ((testamurref03_Same.f kj10 t460 t463).bind fun t466 => (if t466 = true then ((spans_Union.f t448 l1).bind fun t467 => ((spans_Union.f l0 l1).bind fun t470 => ((testamurref03_Same.f kj10 t467 t470).bind fun t473 => (some t473)))) else (none))))) else (none)) = some r := H
                have A17 := Aside0.mk A170
                clear A170
                by_cases c18 : (t457.length : Int) = 0
                · rw [if_pos c18] at H
                  have c18b0 : ((t457.length : Int) == 0) = true := beq_iff_eq.mpr c18
                  have c18b1 : ((t457.length : Int) != 0) = false := bne_eq_false_iff_eq.mpr c18
                  clear c18
                  replace H := Option.bind_eq_some_iff.mp H
                  obtain ⟨t460, A190, H⟩ := H
                  replace H : ((spans_Normal.f l0).bind fun t463 => ((testamurref03_Same.f kj10 t460 t463).bind fun t466 => (if t466 = true then ((spans_Union.f t448 l1).bind fun t467 => ((spans_Union.f l0 l1).bind fun t470 => ((testamurref03_Same.f kj10 t467 t470).bind fun t473 => (some t473)))) else (none)))) = some r := H
                  have A19 := Aside0.mk A190
                  clear A190
                  replace H := Option.bind_eq_some_iff.mp H
                  obtain ⟨t463, A200, H⟩ := H
                  replace H : ((testamurref03_Same.f kj10 t460 t463).bind fun t466 => (if t466 = true then ((spans_Union.f t448 l1).bind fun t467 => ((spans_Union.f l0 l1).bind fun t470 => ((testamurref03_Same.f kj10 t467 t470).bind fun t473 => (some t473)))) else (none))) = some r := H
                  have A20 := Aside0.mk A200
                  clear A200
                  replace H := Option.bind_eq_some_iff.mp H
                  obtain ⟨t466, A210, H⟩ := H
                  replace H : (if t466 = true then ((spans_Union.f t448 l1).bind fun t467 => ((spans_Union.f l0 l1).bind fun t470 => ((testamurref03_Same.f kj10 t467 t470).bind fun t473 => (some t473)))) else (none)) = some r := H
                  have A21 := Aside0.mk A210
                  clear A210
                  by_cases c22 : t466 = true
                  · subst c22
                    have H1 : ((spans_Union.f t448 l1).bind fun t467 => ((spans_Union.f l0 l1).bind fun t470 => ((testamurref03_Same.f kj10 t467 t470).bind fun t473 => (some t473)))) = some r := by rw [if_pos rfl] at H; exact H
                    clear H
                    have H := H1
                    clear H1
                    replace H := Option.bind_eq_some_iff.mp H
                    obtain ⟨t467, A230, H⟩ := H
                    replace H : ((spans_Union.f l0 l1).bind fun t470 => ((testamurref03_Same.f kj10 t467 t470).bind fun t473 => (some t473))) = some r := H
                    have A23 := Aside0.mk A230
                    clear A230
                    replace H := Option.bind_eq_some_iff.mp H
                    obtain ⟨t470, A240, H⟩ := H
                    replace H : ((testamurref03_Same.f kj10 t467 t470).bind fun t473 => (some t473)) = some r := H
                    have A24 := Aside0.mk A240
                    clear A240
                    replace H := Option.bind_eq_some_iff.mp H
                    obtain ⟨t473, A250, H⟩ := H
                    replace H : (some t473) = some r := H
                    have A25 := Aside0.mk A250
                    clear A250
                    obtain rfl := Option.some.inj H
                    go_wp2_with ((with_reducible refine gate_callee (f := 21) rfl ?_); refine Aside0.out (p := _) ?_)
                    refine ⟨?_⟩
                    refine goesL_ (some 19) rfl rfl Try.func21 (by kernel_rfl) rfl #[.slice A0 l0.length c0, .slice A1 l1.length c1] rfl (by (try simp only [List.map_toArray, List.map_cons, List.map_nil]); first | done | rfl | (simp only [List.length_drop, List.length_take]; rfl)) ?_
                    (with_reducible refine (spans_Minus.calls _ _ l0 _ _ l1 t448 _ ?side1 ?side2 ?side3 ?side4 A13.out).mono ?_)
                    (case side1 => repeat (first | exact (Kd.C_below HR0.out HB.out) | (with_reducible refine Kd.C_alloc ?_ _) | (with_reducible refine Kd.C_drewN ?_ _) | (with_reducible refine Kd.C_drew ?_)))
                    (case side2 => exact HC0.out)
                    (case side3 => repeat (first | exact (Kd.C_below HR1.out HB.out) | (with_reducible refine Kd.C_alloc ?_ _) | (with_reducible refine Kd.C_drewN ?_ _) | (with_reducible refine Kd.C_drew ?_)))
                    (case side4 => exact HC1.out)
                    rintro e w26 ⟨v449, rfl, ho0, hb⟩
                    refine ⟨_, rfl, ?_⟩
                    have n0_ := Aside0.mk (Kd.R_lower ho0 (below_size (by repeat (first | (with_reducible first | exact HB.out | apply below_alloc | apply pw_below_drewN | apply below_drew1) | exact HB.out))))
                    have n1_ := Aside0.mk (below_step (by repeat (first | (with_reducible first | exact HB.out | apply below_alloc | apply pw_below_drewN | apply below_drew1) | exact HB.out)) hb)
                    clear HB
                    have HO450 := n0_
                    have HB := n1_
                    clear n0_ n1_
                    (try clear hb)
                    (try clear hb2)
                    (try clear hk)
                    (try clear hi)
                    (try clear ho0)
                    go_wp2_with ((with_reducible refine gate_callee (f := 19) rfl ?_); refine Aside0.out (p := _) ?_)
                    refine ⟨?_⟩
                    refine goesL_ (some 22) rfl rfl Try.func19 (by kernel_rfl) rfl #[.slice A0 l0.length c0, .slice A1 l1.length c1] rfl (by (try simp only [List.map_toArray, List.map_cons, List.map_nil]); first | done | rfl | (simp only [List.length_drop, List.length_take]; rfl)) ?_
                    (with_reducible refine (spans_Meet.calls _ _ l0 _ _ l1 t451 _ ?side1 ?side2 ?side3 ?side4 A14.out).mono ?_)
                    (case side1 => repeat (first | exact (Kd.C_below HR0.out HB.out) | (with_reducible refine Kd.C_alloc ?_ _) | (with_reducible refine Kd.C_drewN ?_ _) | (with_reducible refine Kd.C_drew ?_)))
                    (case side2 => exact HC0.out)
                    (case side3 => repeat (first | exact (Kd.C_below HR1.out HB.out) | (with_reducible refine Kd.C_alloc ?_ _) | (with_reducible refine Kd.C_drewN ?_ _) | (with_reducible refine Kd.C_drew ?_)))
                    (case side4 => exact HC1.out)
                    rintro e w27 ⟨v452, rfl, ho0, hb⟩
                    refine ⟨_, rfl, ?_⟩
                    have n0_ := Aside0.mk (Kd.R_elder' (by (with_reducible repeat (first | apply Kd.R_alloc | apply Kd.R_drewN | apply Kd.R_drew)); exact HO450.out) (Kd.R_base ho0) hb)
                    have n1_ := Aside0.mk (Kd.R_lower ho0 (below_size (by repeat (first | (with_reducible first | exact HB.out | apply below_alloc | apply pw_below_drewN | apply below_drew1) | exact HB.out))))
                    have n2_ := Aside0.mk (below_step (by repeat (first | (with_reducible first | exact HB.out | apply below_alloc | apply pw_below_drewN | apply below_drew1) | exact HB.out)) hb)
                    clear HO450
                    clear HB
                    have HO450 := n0_
                    have HO453 := n1_
                    have HB := n2_
                    clear n0_ n1_ n2_
                    (try clear hb)
                    (try clear hb2)
                    (try clear hk)
                    (try clear hi)
                    (try clear ho0)
                    obtain ⟨Ao28, co28, eo28⟩ := Kd.R_slice HO450.out
                    subst eo28
                    obtain ⟨Ao29, co29, eo29⟩ := Kd.R_slice HO453.out
                    subst eo29
                    go_wp2_with ((with_reducible refine gate_callee (f := 19) rfl ?_); refine Aside0.out (p := _) ?_)
                    refine ⟨?_⟩
                    refine goesL_ (some 25) rfl rfl Try.func19 (by kernel_rfl) rfl #[.slice Ao28 t448.length co28, .slice Ao29 t451.length co29] rfl (by (try simp only [List.map_toArray, List.map_cons, List.map_nil]); first | done | rfl | (simp only [List.length_drop, List.length_take]; rfl)) ?_
                    (with_reducible refine (spans_Meet.calls _ _ t448 _ _ t451 t454 _ ?side1 ?side2 ?side3 ?side4 A15.out).mono ?_)
                    (case side1 => repeat (first | exact (Kd.R_reads' HO450.out).2.2 | (with_reducible refine Kd.C_alloc ?_ _) | (with_reducible refine Kd.C_drewN ?_ _) | (with_reducible refine Kd.C_drew ?_)))
                    (case side2 => exact (Kd.R_reads' HO450.out).2.1)
                    (case side3 => repeat (first | exact (Kd.R_reads' HO453.out).2.2 | (with_reducible refine Kd.C_alloc ?_ _) | (with_reducible refine Kd.C_drewN ?_ _) | (with_reducible refine Kd.C_drew ?_)))
                    (case side4 => exact (Kd.R_reads' HO453.out).2.1)
                    rintro e w30 ⟨v455, rfl, ho0, hb⟩
                    refine ⟨_, rfl, ?_⟩
                    have n0_ := Aside0.mk (Kd.R_elder' (by (with_reducible repeat (first | apply Kd.R_alloc | apply Kd.R_drewN | apply Kd.R_drew)); exact HO450.out) (Kd.R_base ho0) hb)
                    have n1_ := Aside0.mk (Kd.R_elder' (by (with_reducible repeat (first | apply Kd.R_alloc | apply Kd.R_drewN | apply Kd.R_drew)); exact HO453.out) (Kd.R_base ho0) hb)
                    have n2_ := Aside0.mk (Kd.R_lower ho0 (below_size (by repeat (first | (with_reducible first | exact HB.out | apply below_alloc | apply pw_below_drewN | apply below_drew1) | exact HB.out))))
                    have n3_ := Aside0.mk (below_step (by repeat (first | (with_reducible first | exact HB.out | apply below_alloc | apply pw_below_drewN | apply below_drew1) | exact HB.out)) hb)
                    clear HO450
                    clear HO453
                    clear HB
                    have HO450 := n0_
                    have HO453 := n1_
                    have HO456 := n2_
                    have HB := n3_
                    clear n0_ n1_ n2_ n3_
                    (try clear hb)
                    (try clear hb2)
                    (try clear hk)
                    (try clear hi)
                    (try clear ho0)
                    obtain ⟨Ao31, co31, eo31⟩ := Kd.R_slice HO456.out
                    subst eo31
                    go_wp2_with (go_at_call 19; (with_reducible refine (spans_Meet.calls _ _ t448 _ _ l1 t457 _ ?side1 ?side2 ?side3 ?side4 A17.out).mono ?_); (case side1 => repeat (first | exact (Kd.R_reads' HO450.out).2.2 | (with_reducible refine Kd.C_alloc ?_ _) | (with_reducible refine Kd.C_drewN ?_ _) | (with_reducible refine Kd.C_drew ?_))); (case side2 => exact (Kd.R_reads' HO450.out).2.1); (case side3 => repeat (first | exact (Kd.C_below HR1.out HB.out) | (with_reducible refine Kd.C_alloc ?_ _) | (with_reducible refine Kd.C_drewN ?_ _) | (with_reducible refine Kd.C_drew ?_))); (case side4 => exact HC1.out); refine Aside0.out (p := _) ?_)
                    refine ⟨?_⟩
                    rintro e w32 ⟨v458, rfl, ho0, hb⟩
                    have n0_ := Aside0.mk (Kd.R_elder' (by (with_reducible repeat (first | apply Kd.R_alloc | apply Kd.R_drewN | apply Kd.R_drew)); exact HO450.out) (Kd.R_base ho0) hb)
                    have n1_ := Aside0.mk (Kd.R_elder' (by (with_reducible repeat (first | apply Kd.R_alloc | apply Kd.R_drewN | apply Kd.R_drew)); exact HO453.out) (Kd.R_base ho0) hb)
                    have n3_ := Aside0.mk (Kd.R_lower ho0 (below_size (by repeat (first | (with_reducible first | exact HB.out | apply below_alloc | apply pw_below_drewN | apply below_drew1) | exact HB.out))))
                    have n4_ := Aside0.mk (below_step (by repeat (first | (with_reducible first | exact HB.out | apply below_alloc | apply pw_below_drewN | apply below_drew1) | exact HB.out)) hb)
                    clear HO450
                    clear HO453
                    clear HO456
                    clear HB
                    have HO450 := n0_
                    have HO453 := n1_
                    have HO459 := n3_
                    have HB := n4_
                    clear n0_ n1_ n3_ n4_
                    (try clear hb)
                    (try clear hb2)
                    (try clear hk)
                    (try clear hi)
                    (try clear ho0)
                    obtain ⟨Ao33, co33, eo33⟩ := Kd.R_slice HO459.out
                    subst eo33
                    go_wp2_with (go_at_call 17; (with_reducible refine (spans_Union.calls _ _ t448 _ _ t451 t460 _ ?side1 ?side2 ?side3 ?side4 A19.out).mono ?_); (case side1 => repeat (first | exact (Kd.R_reads' HO450.out).2.2 | (with_reducible refine Kd.C_alloc ?_ _) | (with_reducible refine Kd.C_drewN ?_ _) | (with_reducible refine Kd.C_drew ?_))); (case side2 => exact (Kd.R_reads' HO450.out).2.1); (case side3 => repeat (first | exact (Kd.R_reads' HO453.out).2.2 | (with_reducible refine Kd.C_alloc ?_ _) | (with_reducible refine Kd.C_drewN ?_ _) | (with_reducible refine Kd.C_drew ?_))); (case side4 => exact (Kd.R_reads' HO453.out).2.1); refine Aside0.out (p := _) ?_)
                    refine ⟨?_⟩
                    rintro e w34 ⟨v461, rfl, ho0, hb⟩
                    have n0_ := Aside0.mk (Kd.R_elder' (by (with_reducible repeat (first | apply Kd.R_alloc | apply Kd.R_drewN | apply Kd.R_drew)); exact HO450.out) (Kd.R_base ho0) hb)
                    have n4_ := Aside0.mk (Kd.R_lower ho0 (below_size (by repeat (first | (with_reducible first | exact HB.out | apply below_alloc | apply pw_below_drewN | apply below_drew1) | exact HB.out))))
                    have n5_ := Aside0.mk (below_step (by repeat (first | (with_reducible first | exact HB.out | apply below_alloc | apply pw_below_drewN | apply below_drew1) | exact HB.out)) hb)
                    clear HO450
                    clear HO453
                    clear HO459
                    clear HB
                    have HO450 := n0_
                    have HO462 := n4_
                    have HB := n5_
                    clear n0_ n4_ n5_
                    (try clear hb)
                    (try clear hb2)
                    (try clear hk)
                    (try clear hi)
                    (try clear ho0)
                    go_wp2_with (go_at_call 15; (with_reducible refine (spans_Normal.calls _ _ l0 t463 _ ?side1 ?side2 A20.out).mono ?_); (case side1 => repeat (first | exact (Kd.C_below HR0.out HB.out) | (with_reducible refine Kd.C_alloc ?_ _) | (with_reducible refine Kd.C_drewN ?_ _) | (with_reducible refine Kd.C_drew ?_))); (case side2 => exact HC0.out); refine Aside0.out (p := _) ?_)
                    refine ⟨?_⟩
                    rintro e w35 ⟨v464, rfl, ho0, hb⟩
                    have n0_ := Aside0.mk (Kd.R_elder' (by (with_reducible repeat (first | apply Kd.R_alloc | apply Kd.R_drewN | apply Kd.R_drew)); exact HO450.out) (Kd.R_base ho0) hb)
                    have n4_ := Aside0.mk (Kd.R_elder' (by (with_reducible repeat (first | apply Kd.R_alloc | apply Kd.R_drewN | apply Kd.R_drew)); exact HO462.out) (Kd.R_base ho0) hb)
                    have n5_ := Aside0.mk (Kd.R_lower ho0 (below_size (by repeat (first | (with_reducible first | exact HB.out | apply below_alloc | apply pw_below_drewN | apply below_drew1) | exact HB.out))))
                    have n6_ := Aside0.mk (below_step (by repeat (first | (with_reducible first | exact HB.out | apply below_alloc | apply pw_below_drewN | apply below_drew1) | exact HB.out)) hb)
                    clear HO450
                    clear HO462
                    clear HB
                    have HO450 := n0_
                    have HO462 := n4_
                    have HO465 := n5_
                    have HB := n6_
                    clear n0_ n4_ n5_ n6_
                    (try clear hb)
                    (try clear hb2)
                    (try clear hk)
                    (try clear hi)
                    (try clear ho0)
                    obtain ⟨Ao36, co36, eo36⟩ := Kd.R_slice HO462.out
                    subst eo36
                    obtain ⟨Ao37, co37, eo37⟩ := Kd.R_slice HO465.out
                    subst eo37
                    go_wp2_with (go_at_call 14; (with_reducible refine (testamurref03_Same.calls kj10 _ _ t460 _ _ t463 true _ ?side1 ?side2 ?side3 ?side4 A21.out).mono ?_); (case side1 => repeat (first | exact (Kd.R_reads' HO462.out).2.2 | (with_reducible refine Kd.C_alloc ?_ _) | (with_reducible refine Kd.C_drewN ?_ _) | (with_reducible refine Kd.C_drew ?_))); (case side2 => exact (Kd.R_reads' HO462.out).2.1); (case side3 => repeat (first | exact (Kd.R_reads' HO465.out).2.2 | (with_reducible refine Kd.C_alloc ?_ _) | (with_reducible refine Kd.C_drewN ?_ _) | (with_reducible refine Kd.C_drew ?_))); (case side4 => exact (Kd.R_reads' HO465.out).2.1); refine Aside0.out (p := _) ?_)
                    refine ⟨?_⟩
                    rintro e w' ⟨rfl, ⟨nd, rfl⟩⟩
                    go_wp2_with (go_at_call 17; (with_reducible refine (spans_Union.calls _ _ t448 _ _ l1 t467 _ ?side1 ?side2 ?side3 ?side4 A23.out).mono ?_); (case side1 => repeat (first | exact (Kd.R_reads' HO450.out).2.2 | (with_reducible refine Kd.C_alloc ?_ _) | (with_reducible refine Kd.C_drewN ?_ _) | (with_reducible refine Kd.C_drew ?_))); (case side2 => exact (Kd.R_reads' HO450.out).2.1); (case side3 => repeat (first | exact (Kd.C_below HR1.out (by repeat (first | (with_reducible first | exact HB.out | apply below_alloc | apply pw_below_drewN | apply below_drew1) | exact HB.out))) | (with_reducible refine Kd.C_alloc ?_ _) | (with_reducible refine Kd.C_drewN ?_ _) | (with_reducible refine Kd.C_drew ?_))); (case side4 => exact HC1.out); refine Aside0.out (p := _) ?_)
                    refine ⟨?_⟩
                    rintro e w38 ⟨v468, rfl, ho0, hb⟩
                    have n6_ := Aside0.mk (Kd.R_lower ho0 (below_size (by repeat (first | (with_reducible first | exact HB.out | apply below_alloc | apply pw_below_drewN | apply below_drew1) | exact HB.out))))
                    have n7_ := Aside0.mk (below_step (by repeat (first | (with_reducible first | exact HB.out | apply below_alloc | apply pw_below_drewN | apply below_drew1) | exact HB.out)) hb)
                    clear HO450
                    clear HO462
                    clear HO465
                    clear HB
                    have HO469 := n6_
                    have HB := n7_
                    clear n6_ n7_
                    (try clear hb)
                    (try clear hb2)
                    (try clear hk)
                    (try clear hi)
                    (try clear ho0)
                    go_wp2_with (go_at_call 17; (with_reducible refine (spans_Union.calls _ _ l0 _ _ l1 t470 _ ?side1 ?side2 ?side3 ?side4 A24.out).mono ?_); (case side1 => repeat (first | exact (Kd.C_below HR0.out HB.out) | (with_reducible refine Kd.C_alloc ?_ _) | (with_reducible refine Kd.C_drewN ?_ _) | (with_reducible refine Kd.C_drew ?_))); (case side2 => exact HC0.out); (case side3 => repeat (first | exact (Kd.C_below HR1.out HB.out) | (with_reducible refine Kd.C_alloc ?_ _) | (with_reducible refine Kd.C_drewN ?_ _) | (with_reducible refine Kd.C_drew ?_))); (case side4 => exact HC1.out); refine Aside0.out (p := _) ?_)
                    refine ⟨?_⟩
                    rintro e w39 ⟨v471, rfl, ho0, hb⟩
                    have n6_ := Aside0.mk (Kd.R_elder' (by (with_reducible repeat (first | apply Kd.R_alloc | apply Kd.R_drewN | apply Kd.R_drew)); exact HO469.out) (Kd.R_base ho0) hb)
                    have n7_ := Aside0.mk (Kd.R_lower ho0 (below_size (by repeat (first | (with_reducible first | exact HB.out | apply below_alloc | apply pw_below_drewN | apply below_drew1) | exact HB.out))))
                    have n8_ := Aside0.mk (below_step (by repeat (first | (with_reducible first | exact HB.out | apply below_alloc | apply pw_below_drewN | apply below_drew1) | exact HB.out)) hb)
                    clear HO469
                    clear HB
                    have HO469 := n6_
                    have HO472 := n7_
                    have HB := n8_
                    clear n6_ n7_ n8_
                    (try clear hb)
                    (try clear hb2)
                    (try clear hk)
                    (try clear hi)
                    (try clear ho0)
                    obtain ⟨Ao40, co40, eo40⟩ := Kd.R_slice HO469.out
                    subst eo40
                    obtain ⟨Ao41, co41, eo41⟩ := Kd.R_slice HO472.out
                    subst eo41
                    go_wp2_with (go_at_call 14; (with_reducible refine (testamurref03_Same.calls kj10 _ _ t467 _ _ t470 t473 _ ?side1 ?side2 ?side3 ?side4 A25.out).mono ?_); (case side1 => repeat (first | exact (Kd.R_reads' HO469.out).2.2 | (with_reducible refine Kd.C_alloc ?_ _) | (with_reducible refine Kd.C_drewN ?_ _) | (with_reducible refine Kd.C_drew ?_))); (case side2 => exact (Kd.R_reads' HO469.out).2.1); (case side3 => repeat (first | exact (Kd.R_reads' HO472.out).2.2 | (with_reducible refine Kd.C_alloc ?_ _) | (with_reducible refine Kd.C_drewN ?_ _) | (with_reducible refine Kd.C_drew ?_))); (case side4 => exact (Kd.R_reads' HO472.out).2.1); refine Aside0.out (p := _) ?_)
                    refine ⟨?_⟩
                    rintro e w' ⟨rfl, ⟨nd, rfl⟩⟩
                    go_wp2
                    go_ret
                    exact ⟨by first | rfl | (simp [errW_none, errW_some] <;> rfl) | (simp [*, errW_none, errW_some] <;> rfl), by repeat (first | (with_reducible first | exact HB.out | apply below_alloc | apply pw_below_drewN | apply below_drew1) | exact HB.out)⟩
                  · replace c22 := Bool.eq_false_iff.mpr c22
                    subst c22
                    have H1 : (none) = some r := by rw [if_neg (show ¬ (false = true) by decide)] at H; exact H
                    clear H
                    have H := H1
                    clear H1
                    exact absurd H (by simp)
                · rw [if_neg c18] at H
                  exact absurd H (by simp)
              · rw [if_neg c16] at H
                exact absurd H (by simp)

end Go.Proofs.Ytcemfklhbgnflaa.P
