-- printed by gprint.py (a program of this seat over the kit's print.py): Lean checks it
import Derived.Test.YtcemfklhbgnflaaP0
import Derived.Test.YtcemfklhbgnflaaP2
import Derived.Test.YtcemfklhbgnflaaP3
import Derived.Test.YtcemfklhbgnflaaP4
import Derived.Test.YtcemfklhbgnflaaP5
import Derived.Test.YtcemfklhbgnflaaG
import Derived.Test.YtcemfklhbgnflaaH
namespace Go.Proofs.Ytcemfklhbgnflaa.P
open Go.RowKit Go.Proofs.YtcemfklhbgnflaaW.PrintWords Go.Proofs.YtcemfklhbgnflaaW.PrintLast Go.Proofs.YtcemfklhbgnflaaW.PrintMore
attribute [local go_sem] max2_int min2_int max_two min_two max_three min_three max_four min_four   -- for this text's walks alone
set_option linter.unusedVariables false
set_option linter.unusedSimpArgs false

/-! ### testamurlaw03_SpansSetsSpec: function 4 -/
mutual
def testamurlaw03_SpansSetsSpec.j0 : Nat → List (S31) → List (S31) → Option (Bool)
  | 0, _, _ => none
  | k + 1, x0, x1 => (testamurref03_Few.f x0).bind fun t317 => (if t317 = true then ((testamurref03_Few.f x1).bind fun t318 => (testamurlaw03_SpansSetsSpec.j1 k x0 x1 (!t318))) else (testamurlaw03_SpansSetsSpec.j1 k x0 x1 true))
def testamurlaw03_SpansSetsSpec.j1 : Nat → List (S31) → List (S31) → Bool → Option (Bool)
  | 0, _, _, _ => none
  | k + 1, x0, x1, x14 => if x14 = true then (some true) else (testamurlaw03_SpansSetsSpec.j2 k x0 x1)
def testamurlaw03_SpansSetsSpec.j2 : Nat → List (S31) → List (S31) → Option (Bool)
  | 0, _, _ => none
  | k + 1, x0, x1 => (spans_Union.f x0 x1).bind fun t319 => ((testamurref03_Union.f k x0 x1).bind fun t322 => ((testamurref03_Same.f k t319 t322).bind fun t325 => (if t325 = true then ((spans_Meet.f x0 x1).bind fun t326 => ((testamurref03_Meet.f k x0 x1).bind fun t329 => ((testamurref03_Same.f k t326 t329).bind fun t332 => (if t332 = true then ((spans_Minus.f x0 x1).bind fun t333 => ((testamurref03_Minus.f k x0 x1).bind fun t336 => ((testamurref03_Same.f k t333 t336).bind fun t339 => (some t339)))) else (none))))) else (none))))
end
def testamurlaw03_SpansSetsSpec.f (k : Nat) (l0 : List (S31)) (l1 : List (S31)) : Option (Bool) := (testamurlaw03_sane.f k).bind fun t316 => (if t316 = true then (testamurlaw03_SpansSetsSpec.j0 k l0 l1) else (none))
theorem testamurlaw03_SpansSetsSpec.mono_l : ∀ k, (∀ y0 y1, LeO (testamurlaw03_SpansSetsSpec.j0 k y0 y1) (testamurlaw03_SpansSetsSpec.j0 (k + 1) y0 y1)) ∧ (∀ y0 y1 y2, LeO (testamurlaw03_SpansSetsSpec.j1 k y0 y1 y2) (testamurlaw03_SpansSetsSpec.j1 (k + 1) y0 y1 y2)) ∧ (∀ y0 y1, LeO (testamurlaw03_SpansSetsSpec.j2 k y0 y1) (testamurlaw03_SpansSetsSpec.j2 (k + 1) y0 y1))
  | 0 => ⟨fun _ _ r h => by simp [testamurlaw03_SpansSetsSpec.j0] at h, fun _ _ _ r h => by simp [testamurlaw03_SpansSetsSpec.j1] at h, fun _ _ r h => by simp [testamurlaw03_SpansSetsSpec.j2] at h⟩
  | k + 1 => by
    obtain ⟨ih0, ih1, ih2⟩ := testamurlaw03_SpansSetsSpec.mono_l k
    refine ⟨?_, ?_, ?_⟩
    · intro y0 y1
      unfold testamurlaw03_SpansSetsSpec.j0
      repeat' first
      | (with_reducible exact ih0 _ _)
      | (with_reducible exact ih1 _ _ _)
      | (with_reducible exact ih2 _ _)
      | (with_reducible exact testamurlaw03_sane.mono _)
      | (with_reducible exact testamurref03_Meet.mono _ _ _)
      | (with_reducible exact testamurref03_Minus.mono _ _ _)
      | (with_reducible exact testamurref03_Same.mono _ _ _)
      | (with_reducible exact testamurref03_Union.mono _ _ _)
      | (with_reducible exact LeO.refl _)
      | (with_reducible exact LeO.none _)
      | (with_reducible refine LeO.ite ?_ ?_)
      | (with_reducible refine LeO.bind ?_ (fun _ => ?_))
      | exact ih0 _ _
      | exact ih1 _ _ _
      | exact ih2 _ _
      | exact testamurlaw03_sane.mono _
      | exact testamurref03_Meet.mono _ _ _
      | exact testamurref03_Minus.mono _ _ _
      | exact testamurref03_Same.mono _ _ _
      | exact testamurref03_Union.mono _ _ _
      | exact LeO.none _
      | refine LeO.ite ?_ ?_
      | refine LeO.bind ?_ (fun _ => ?_)
    · intro y0 y1 y2
      unfold testamurlaw03_SpansSetsSpec.j1
      repeat' first
      | (with_reducible exact ih0 _ _)
      | (with_reducible exact ih1 _ _ _)
      | (with_reducible exact ih2 _ _)
      | (with_reducible exact testamurlaw03_sane.mono _)
      | (with_reducible exact testamurref03_Meet.mono _ _ _)
      | (with_reducible exact testamurref03_Minus.mono _ _ _)
      | (with_reducible exact testamurref03_Same.mono _ _ _)
      | (with_reducible exact testamurref03_Union.mono _ _ _)
      | (with_reducible exact LeO.refl _)
      | (with_reducible exact LeO.none _)
      | (with_reducible refine LeO.ite ?_ ?_)
      | (with_reducible refine LeO.bind ?_ (fun _ => ?_))
      | exact ih0 _ _
      | exact ih1 _ _ _
      | exact ih2 _ _
      | exact testamurlaw03_sane.mono _
      | exact testamurref03_Meet.mono _ _ _
      | exact testamurref03_Minus.mono _ _ _
      | exact testamurref03_Same.mono _ _ _
      | exact testamurref03_Union.mono _ _ _
      | exact LeO.none _
      | refine LeO.ite ?_ ?_
      | refine LeO.bind ?_ (fun _ => ?_)
    · intro y0 y1
      unfold testamurlaw03_SpansSetsSpec.j2
      repeat' first
      | (with_reducible exact ih0 _ _)
      | (with_reducible exact ih1 _ _ _)
      | (with_reducible exact ih2 _ _)
      | (with_reducible exact testamurlaw03_sane.mono _)
      | (with_reducible exact testamurref03_Meet.mono _ _ _)
      | (with_reducible exact testamurref03_Minus.mono _ _ _)
      | (with_reducible exact testamurref03_Same.mono _ _ _)
      | (with_reducible exact testamurref03_Union.mono _ _ _)
      | (with_reducible exact LeO.refl _)
      | (with_reducible exact LeO.none _)
      | (with_reducible refine LeO.ite ?_ ?_)
      | (with_reducible refine LeO.bind ?_ (fun _ => ?_))
      | exact ih0 _ _
      | exact ih1 _ _ _
      | exact ih2 _ _
      | exact testamurlaw03_sane.mono _
      | exact testamurref03_Meet.mono _ _ _
      | exact testamurref03_Minus.mono _ _ _
      | exact testamurref03_Same.mono _ _ _
      | exact testamurref03_Union.mono _ _ _
      | exact LeO.none _
      | refine LeO.ite ?_ ?_
      | refine LeO.bind ?_ (fun _ => ?_)
theorem testamurlaw03_SpansSetsSpec.mono : ∀ a0 a1 k, LeO (testamurlaw03_SpansSetsSpec.f k a0 a1) (testamurlaw03_SpansSetsSpec.f (k + 1) a0 a1) := by
  intro a0 a1 k
  obtain ⟨ih0, ih1, ih2⟩ := testamurlaw03_SpansSetsSpec.mono_l k
  unfold testamurlaw03_SpansSetsSpec.f
  repeat' first
      | (with_reducible exact ih0 _ _)
      | (with_reducible exact ih1 _ _ _)
      | (with_reducible exact ih2 _ _)
      | (with_reducible exact testamurlaw03_sane.mono _)
      | (with_reducible exact testamurref03_Meet.mono _ _ _)
      | (with_reducible exact testamurref03_Minus.mono _ _ _)
      | (with_reducible exact testamurref03_Same.mono _ _ _)
      | (with_reducible exact testamurref03_Union.mono _ _ _)
      | (with_reducible exact LeO.refl _)
      | (with_reducible exact LeO.none _)
      | (with_reducible refine LeO.ite ?_ ?_)
      | (with_reducible refine LeO.bind ?_ (fun _ => ?_))
      | exact ih0 _ _
      | exact ih1 _ _ _
      | exact ih2 _ _
      | exact testamurlaw03_sane.mono _
      | exact testamurref03_Meet.mono _ _ _
      | exact testamurref03_Minus.mono _ _ _
      | exact testamurref03_Same.mono _ _ _
      | exact testamurref03_Union.mono _ _ _
      | exact LeO.none _
      | refine LeO.ite ?_ ?_
      | refine LeO.bind ?_ (fun _ => ?_)
set_option maxHeartbeats 8000000 in
set_option maxRecDepth 100000 in
theorem testamurlaw03_SpansSetsSpec.calls (k : Nat) (A0 : Option Addr) (c0 : Nat) (l0 : List (S31)) (A1 : Option Addr) (c1 : Nat) (l1 : List (S31)) (r : Bool) (w : World) (hr0 : Kd.C k31 w A0 l0.length l0) (hc0 : l0.length ≤ c0) (hr1 : Kd.C k31 w A1 l1.length l1) (hc1 : l1.length ≤ c1) (h : testamurlaw03_SpansSetsSpec.f k l0 l1 = some r) :
    Calls Try.prog 4 #[.slice A0 l0.length c0, .slice A1 l1.length c1] w fun e w' => e = .returned (.bool r) ∧ Below w.heap.size w w' := by
  have HR0 := Aside0.mk hr0
  have HC0 := Aside0.mk hc0
  clear hr0 hc0
  have HR1 := Aside0.mk hr1
  have HC1 := Aside0.mk hc1
  clear hr1 hc1
  have HB := Aside0.mk (Below.refl w.heap.size w)
  have H : ((testamurlaw03_sane.f k).bind fun t316 => (if t316 = true then (testamurlaw03_SpansSetsSpec.j0 k l0 l1) else (none))) = some r := h
  clear h
  replace H := Option.bind_eq_some_iff.mp H
  obtain ⟨t316, A30, H⟩ := H
  replace H : (if t316 = true then (testamurlaw03_SpansSetsSpec.j0 k l0 l1) else (none)) = some r := H
  have A3 := Aside0.mk A30
  clear A30
  have HC4 := Aside0.mk H
  clear H
  go_enter Try.func4, Try.ntmps4
  try simp only [List.append]
  go_upto_if 6 with (first | ((with_reducible refine gate_callee (f := 10) rfl ?_); refine goesL_ (some 5) rfl rfl Try.func10 (by kernel_rfl) rfl #[] rfl (by (try simp only [List.map_toArray, List.map_cons, List.map_nil]); first | done | rfl | (simp only [List.length_drop, List.length_take]; rfl)) ?_; (with_reducible refine (testamurlaw03_sane.calls k  t316 _ A3.out).mono ?_); rintro e w5 ⟨rfl, hb⟩; refine ⟨_, rfl, ?_⟩; have n0_ := Aside0.mk (below_step (by repeat (first | (with_reducible first | exact HB.out | apply below_alloc | apply pw_below_drewN | apply below_drew1) | exact HB.out)) hb); clear HB; have HB := n0_; clear n0_; (try clear hb); (try clear hb2); (try clear hk); (try clear hi)))
  (try simp only [Act.put, List.setIfInBounds_toArray, List.set_cons_zero, List.set_cons_succ])
  go_cut [] (fun wc => ∃ (kq : Nat), Aside0 (testamurlaw03_SpansSetsSpec.j0 kq l0 l1 = some r) ∧ Aside0 (kq ≤ k) ∧ Aside0 (Below w.heap.size w wc))
  case first =>
    have H := HC4.out
    clear HC4
    by_cases c6 : t316 = true
    · subst c6
      have H1 : (testamurlaw03_SpansSetsSpec.j0 k l0 l1) = some r := by rw [if_pos rfl] at H; exact H
      clear H
      have H := H1
      clear H1
      have H' := Aside0.mk H
      clear H
      go_wp2
      go_meet
      case rel => exact ⟨_, H', ⟨by first | omega | exact Nat.le_refl _⟩, ⟨by repeat (first | (with_reducible first | exact HB.out | apply below_alloc | apply pw_below_drewN | apply below_drew1) | exact HB.out)⟩⟩
    · replace c6 := Bool.eq_false_iff.mpr c6
      subst c6
      have H1 : (none) = some r := by rw [if_neg (show ¬ (false = true) by decide)] at H; exact H
      clear H
      have H := H1
      clear H1
      exact absurd H (by simp)
  case rest =>
    clear HC4
    try clear c1
    try clear p2
    try clear c4
    try clear c6
    obtain ⟨kq, HA, HJ3, HB⟩ := hcut
    cases kq with
    | zero => exact absurd HA.out (by simp [testamurlaw03_SpansSetsSpec.j0])
    | succ kj3 =>
      have H := HA.out
      clear HA
      simp only [testamurlaw03_SpansSetsSpec.j0] at H
      have HC7 := Aside0.mk H
      clear H
      go_upto_region 3 with (fail)
      go_cut [14] (fun v14 wc => ∃ (kq : Nat) (x14_6 : Bool), v14 = .bool x14_6 ∧ Aside0 (testamurlaw03_SpansSetsSpec.j1 kq l0 l1 x14_6 = some r) ∧ Aside0 (kq ≤ kj3) ∧ Aside0 (Below w.heap.size w wc))
      case first =>
        have H := HC7.out
        clear HC7
        replace H := Option.bind_eq_some_iff.mp H
        obtain ⟨t317, A80, H⟩ := H
        replace H : (if t317 = true then ((testamurref03_Few.f l1).bind fun t318 => (testamurlaw03_SpansSetsSpec.j1 kj3 l0 l1 (!t318))) else (testamurlaw03_SpansSetsSpec.j1 kj3 l0 l1 true)) = some r := H
        have A8 := Aside0.mk A80
        clear A80
        by_cases c9 : t317 = true
        · subst c9
          have H1 : ((testamurref03_Few.f l1).bind fun t318 => (testamurlaw03_SpansSetsSpec.j1 kj3 l0 l1 (!t318))) = some r := by rw [if_pos rfl] at H; exact H
          clear H
          have H := H1
          clear H1
          replace H := Option.bind_eq_some_iff.mp H
          obtain ⟨t318, A100, H⟩ := H
          replace H : (testamurlaw03_SpansSetsSpec.j1 kj3 l0 l1 (!t318)) = some r := H
          have A10 := Aside0.mk A100
          clear A100
          have H' := Aside0.mk H
          clear H
          go_wp2_with ((with_reducible refine gate_callee (f := 11) rfl ?_); refine Aside0.out (p := _) ?_)
          refine ⟨?_⟩
          refine goesL_ (some 8) rfl rfl Try.func11 (by kernel_rfl) rfl #[.slice A0 l0.length c0] rfl (by (try simp only [List.map_toArray, List.map_cons, List.map_nil]); first | done | rfl | (simp only [List.length_drop, List.length_take]; rfl)) ?_
          (with_reducible refine (testamurref03_Few.calls _ _ l0 true _ ?side1 ?side2 A8.out).mono ?_)
          (case side1 => repeat (first | exact (Kd.C_below HR0.out HB.out) | (with_reducible refine Kd.C_alloc ?_ _) | (with_reducible refine Kd.C_drewN ?_ _) | (with_reducible refine Kd.C_drew ?_)))
          (case side2 => exact HC0.out)
          rintro e w' ⟨rfl, ⟨nd, rfl⟩⟩
          refine ⟨_, rfl, ?_⟩
          go_wp2_with (go_at_call 11; (with_reducible refine (testamurref03_Few.calls _ _ l1 t318 _ ?side1 ?side2 A10.out).mono ?_); (case side1 => repeat (first | exact (Kd.C_below HR1.out (by repeat (first | (with_reducible first | exact HB.out | apply below_alloc | apply pw_below_drewN | apply below_drew1) | exact HB.out))) | (with_reducible refine Kd.C_alloc ?_ _) | (with_reducible refine Kd.C_drewN ?_ _) | (with_reducible refine Kd.C_drew ?_))); (case side2 => exact HC1.out); refine Aside0.out (p := _) ?_)
          refine ⟨?_⟩
          rintro e w' ⟨rfl, ⟨nd, rfl⟩⟩
          go_wp2
          go_meet
          case rel => exact ⟨_, (!t318), (by first | rfl | (simp; done) | (simp [*]; done)), H', ⟨by have := HJ3.out; first | omega | exact Nat.le_refl _⟩, ⟨by repeat (first | (with_reducible first | exact HB.out | apply below_alloc | apply pw_below_drewN | apply below_drew1) | exact HB.out)⟩⟩
        · replace c9 := Bool.eq_false_iff.mpr c9
          subst c9
          have H1 : (testamurlaw03_SpansSetsSpec.j1 kj3 l0 l1 true) = some r := by rw [if_neg (show ¬ (false = true) by decide)] at H; exact H
          clear H
          have H := H1
          clear H1
          have H' := Aside0.mk H
          clear H
          go_wp2_with ((with_reducible refine gate_callee (f := 11) rfl ?_); refine Aside0.out (p := _) ?_)
          refine ⟨?_⟩
          refine goesL_ (some 8) rfl rfl Try.func11 (by kernel_rfl) rfl #[.slice A0 l0.length c0] rfl (by (try simp only [List.map_toArray, List.map_cons, List.map_nil]); first | done | rfl | (simp only [List.length_drop, List.length_take]; rfl)) ?_
          (with_reducible refine (testamurref03_Few.calls _ _ l0 false _ ?side1 ?side2 A8.out).mono ?_)
          (case side1 => repeat (first | exact (Kd.C_below HR0.out HB.out) | (with_reducible refine Kd.C_alloc ?_ _) | (with_reducible refine Kd.C_drewN ?_ _) | (with_reducible refine Kd.C_drew ?_)))
          (case side2 => exact HC0.out)
          rintro e w' ⟨rfl, ⟨nd, rfl⟩⟩
          refine ⟨_, rfl, ?_⟩
          go_wp2
          go_meet
          case rel => exact ⟨_, (true), (by first | rfl | (simp; done) | (simp [*]; done)), H', ⟨by have := HJ3.out; first | omega | exact Nat.le_refl _⟩, ⟨by repeat (first | (with_reducible first | exact HB.out | apply below_alloc | apply pw_below_drewN | apply below_drew1) | exact HB.out)⟩⟩
      case rest =>
        clear HC7
        try clear c1
        try clear p2
        try clear c4
        try clear c6
        try clear c9
        try clear c10
        try clear p2
        obtain ⟨kq, x14_6, rfl, HA, HJ6, HB⟩ := hcut
        cases kq with
        | zero => exact absurd HA.out (by simp [testamurlaw03_SpansSetsSpec.j1])
        | succ kj6 =>
          have H := HA.out
          clear HA
          simp only [testamurlaw03_SpansSetsSpec.j1] at H
          have HC11 := Aside0.mk H
          clear H
          go_upto_if 14 with (fail)
          go_cut [] (fun wc => ∃ (kq : Nat), Aside0 (testamurlaw03_SpansSetsSpec.j2 kq l0 l1 = some r) ∧ Aside0 (kq ≤ kj6) ∧ Aside0 (Below w.heap.size w wc))
          case first =>
            have H := HC11.out
            clear HC11
            by_cases c12 : x14_6 = true
            · subst c12
              have H1 : (some true) = some r := by rw [if_pos rfl] at H; exact H
              clear H
              have H := H1
              clear H1
              obtain rfl := Option.some.inj H
              go_wp2
              go_ret
              exact ⟨by first | rfl | (simp [errW_none, errW_some] <;> rfl) | (simp [*, errW_none, errW_some] <;> rfl), by repeat (first | (with_reducible first | exact HB.out | apply below_alloc | apply pw_below_drewN | apply below_drew1) | exact HB.out)⟩
            · replace c12 := Bool.eq_false_iff.mpr c12
              subst c12
              have H1 : (testamurlaw03_SpansSetsSpec.j2 kj6 l0 l1) = some r := by rw [if_neg (show ¬ (false = true) by decide)] at H; exact H
              clear H
              have H := H1
              clear H1
              have H' := Aside0.mk H
              clear H
              go_wp2
              go_meet
              case rel => exact ⟨_, H', ⟨by have := HJ3.out; have := HJ6.out; first | omega | exact Nat.le_refl _⟩, ⟨by repeat (first | (with_reducible first | exact HB.out | apply below_alloc | apply pw_below_drewN | apply below_drew1) | exact HB.out)⟩⟩
          case rest =>
            clear HC11
            try clear c1
            try clear p2
            try clear c4
            try clear c6
            try clear c9
            try clear c10
            try clear c11
            try clear c12
            try clear p2
            obtain ⟨kq, HA, HJ10, HB⟩ := hcut
            cases kq with
            | zero => exact absurd HA.out (by simp [testamurlaw03_SpansSetsSpec.j2])
            | succ kj10 =>
              have H := HA.out
              clear HA
              simp only [testamurlaw03_SpansSetsSpec.j2] at H
              replace H := Option.bind_eq_some_iff.mp H
              obtain ⟨t319, A130, H⟩ := H
              replace H : ((testamurref03_Union.f kj10 l0 l1).bind fun t322 => ((testamurref03_Same.f kj10 t319 t322).bind fun t325 => (if t325 = true then ((spans_Meet.f l0 l1).bind fun t326 => ((testamurref03_Meet.f kj10 l0 l1).bind fun t329 => ((testamurref03_Same.f kj10 t326 t329).bind fun t332 => (if t332 = true then ((spans_Minus.f l0 l1).bind fun t333 => ((testamurref03_Minus.f kj10 l0 l1).bind fun t336 => ((testamurref03_Same.f kj10 t333 t336).bind fun t339 => (some t339)))) else (none))))) else (none)))) = some r := H
              have A13 := Aside0.mk A130
              clear A130
              replace H := Option.bind_eq_some_iff.mp H
              obtain ⟨t322, A140, H⟩ := H
              replace H : ((testamurref03_Same.f kj10 t319 t322).bind fun t325 => (if t325 = true then ((spans_Meet.f l0 l1).bind fun t326 => ((testamurref03_Meet.f kj10 l0 l1).bind fun t329 => ((testamurref03_Same.f kj10 t326 t329).bind fun t332 => (if t332 = true then ((spans_Minus.f l0 l1).bind fun t333 => ((testamurref03_Minus.f kj10 l0 l1).bind fun t336 => ((testamurref03_Same.f kj10 t333 t336).bind fun t339 => (some t339)))) else (none))))) else (none))) = some r := H
              have A14 := Aside0.mk A140
              clear A140
              replace H := Option.bind_eq_some_iff.mp H
              obtain ⟨t325, A150, H⟩ := H
              replace H : (if t325 = true then ((spans_Meet.f l0 l1).bind fun t326 => ((testamurref03_Meet.f kj10 l0 l1).bind fun t329 => ((testamurref03_Same.f kj10 t326 t329).bind fun t332 => (if t332 = true then ((spans_Minus.f l0 l1).bind fun t333 => ((testamurref03_Minus.f kj10 l0 l1).bind fun t336 => ((testamurref03_Same.f kj10 t333 t336).bind fun t339 => (some t339)))) else (none))))) else (none)) = some r := H
              have A15 := Aside0.mk A150
              clear A150
              by_cases c16 : t325 = true
              · subst c16
                have H1 : ((spans_Meet.f l0 l1).bind fun t326 => ((testamurref03_Meet.f kj10 l0 l1).bind fun t329 => ((testamurref03_Same.f kj10 t326 t329).bind fun t332 => (if t332 = true then ((spans_Minus.f l0 l1).bind fun t333 => ((testamurref03_Minus.f kj10 l0 l1).bind fun t336 => ((testamurref03_Same.f kj10 t333 t336).bind fun t339 => (some t339)))) else (none))))) = some r := by rw [if_pos rfl] at H; exact H
                clear H
                have H := H1
                clear H1
                replace H := Option.bind_eq_some_iff.mp H
                obtain ⟨t326, A170, H⟩ := H
                replace H : ((testamurref03_Meet.f kj10 l0 l1).bind fun t329 => ((testamurref03_Same.f kj10 t326 t329).bind fun t332 => (if t332 = true then ((spans_Minus.f l0 l1).bind fun t333 => ((testamurref03_Minus.f kj10 l0 l1).bind fun t336 => ((testamurref03_Same.f kj10 t333 t336).bind fun t339 => (some t339)))) else (none)))) = some r := H
                have A17 := Aside0.mk A170
                clear A170
                replace H := Option.bind_eq_some_iff.mp H
                obtain ⟨t329, A180, H⟩ := H
                replace H : ((testamurref03_Same.f kj10 t326 t329).bind fun t332 => (if t332 = true then ((spans_Minus.f l0 l1).bind fun t333 => ((testamurref03_Minus.f kj10 l0 l1).bind fun t336 => ((testamurref03_Same.f kj10 t333 t336).bind fun t339 => (some t339)))) else (none))) = some r := H
                have A18 := Aside0.mk A180
                clear A180
                replace H := Option.bind_eq_some_iff.mp H
                obtain ⟨t332, A190, H⟩ := H
                replace H : (if t332 = true then ((spans_Minus.f l0 l1).bind fun t333 => ((testamurref03_Minus.f kj10 l0 l1).bind fun t336 => ((testamurref03_Same.f kj10 t333 t336).bind fun t339 => (some t339)))) else (none)) = some r := H
                have A19 := Aside0.mk A190
                clear A190
                by_cases c20 : t332 = true
                · subst c20
                  have H1 : ((spans_Minus.f l0 l1).bind fun t333 => ((testamurref03_Minus.f kj10 l0 l1).bind fun t336 => ((testamurref03_Same.f kj10 t333 t336).bind fun t339 => (some t339)))) = some r := by rw [if_pos rfl] at H; exact H
                  clear H
                  have H := H1
                  clear H1
                  replace H := Option.bind_eq_some_iff.mp H
                  obtain ⟨t333, A210, H⟩ := H
                  replace H : ((testamurref03_Minus.f kj10 l0 l1).bind fun t336 => ((testamurref03_Same.f kj10 t333 t336).bind fun t339 => (some t339))) = some r := H
                  have A21 := Aside0.mk A210
                  clear A210
                  replace H := Option.bind_eq_some_iff.mp H
                  obtain ⟨t336, A220, H⟩ := H
                  replace H : ((testamurref03_Same.f kj10 t333 t336).bind fun t339 => (some t339)) = some r := H
                  have A22 := Aside0.mk A220
                  clear A220
                  replace H := Option.bind_eq_some_iff.mp H
                  obtain ⟨t339, A230, H⟩ := H
                  replace H : (some t339) = some r := H
                  have A23 := Aside0.mk A230
                  clear A230
                  obtain rfl := Option.some.inj H
                  go_wp2_with ((with_reducible refine gate_callee (f := 17) rfl ?_); refine Aside0.out (p := _) ?_)
                  refine ⟨?_⟩
                  refine goesL_ (some 17) rfl rfl Try.func17 (by kernel_rfl) rfl #[.slice A0 l0.length c0, .slice A1 l1.length c1] rfl (by (try simp only [List.map_toArray, List.map_cons, List.map_nil]); first | done | rfl | (simp only [List.length_drop, List.length_take]; rfl)) ?_
                  (with_reducible refine (spans_Union.calls _ _ l0 _ _ l1 t319 _ ?side1 ?side2 ?side3 ?side4 A13.out).mono ?_)
                  (case side1 => repeat (first | exact (Kd.C_below HR0.out HB.out) | (with_reducible refine Kd.C_alloc ?_ _) | (with_reducible refine Kd.C_drewN ?_ _) | (with_reducible refine Kd.C_drew ?_)))
                  (case side2 => exact HC0.out)
                  (case side3 => repeat (first | exact (Kd.C_below HR1.out HB.out) | (with_reducible refine Kd.C_alloc ?_ _) | (with_reducible refine Kd.C_drewN ?_ _) | (with_reducible refine Kd.C_drew ?_)))
                  (case side4 => exact HC1.out)
                  rintro e w24 ⟨v320, rfl, ho0, hb⟩
                  refine ⟨_, rfl, ?_⟩
                  have n0_ := Aside0.mk (Kd.R_lower ho0 (below_size (by repeat (first | (with_reducible first | exact HB.out | apply below_alloc | apply pw_below_drewN | apply below_drew1) | exact HB.out))))
                  have n1_ := Aside0.mk (below_step (by repeat (first | (with_reducible first | exact HB.out | apply below_alloc | apply pw_below_drewN | apply below_drew1) | exact HB.out)) hb)
                  clear HB
                  have HO321 := n0_
                  have HB := n1_
                  clear n0_ n1_
                  (try clear hb)
                  (try clear hb2)
                  (try clear hk)
                  (try clear hi)
                  (try clear ho0)
                  go_wp2_with ((with_reducible refine gate_callee (f := 18) rfl ?_); refine Aside0.out (p := _) ?_)
                  refine ⟨?_⟩
                  refine goesL_ (some 20) rfl rfl Try.func18 (by kernel_rfl) rfl #[.slice A0 l0.length c0, .slice A1 l1.length c1] rfl (by (try simp only [List.map_toArray, List.map_cons, List.map_nil]); first | done | rfl | (simp only [List.length_drop, List.length_take]; rfl)) ?_
                  (with_reducible refine (testamurref03_Union.calls kj10 _ _ l0 _ _ l1 t322 _ ?side1 ?side2 ?side3 ?side4 A14.out).mono ?_)
                  (case side1 => repeat (first | exact (Kd.C_below HR0.out HB.out) | (with_reducible refine Kd.C_alloc ?_ _) | (with_reducible refine Kd.C_drewN ?_ _) | (with_reducible refine Kd.C_drew ?_)))
                  (case side2 => exact HC0.out)
                  (case side3 => repeat (first | exact (Kd.C_below HR1.out HB.out) | (with_reducible refine Kd.C_alloc ?_ _) | (with_reducible refine Kd.C_drewN ?_ _) | (with_reducible refine Kd.C_drew ?_)))
                  (case side4 => exact HC1.out)
                  rintro e w25 ⟨v323, rfl, ho0, hb⟩
                  refine ⟨_, rfl, ?_⟩
                  have n0_ := Aside0.mk (Kd.R_elder' (by (with_reducible repeat (first | apply Kd.R_alloc | apply Kd.R_drewN | apply Kd.R_drew)); exact HO321.out) (Kd.R_base ho0) hb)
                  have n1_ := Aside0.mk (Kd.R_lower ho0 (below_size (by repeat (first | (with_reducible first | exact HB.out | apply below_alloc | apply pw_below_drewN | apply below_drew1) | exact HB.out))))
                  have n2_ := Aside0.mk (below_step (by repeat (first | (with_reducible first | exact HB.out | apply below_alloc | apply pw_below_drewN | apply below_drew1) | exact HB.out)) hb)
                  clear HO321
                  clear HB
                  have HO321 := n0_
                  have HO324 := n1_
                  have HB := n2_
                  clear n0_ n1_ n2_
                  (try clear hb)
                  (try clear hb2)
                  (try clear hk)
                  (try clear hi)
                  (try clear ho0)
                  obtain ⟨Ao26, co26, eo26⟩ := Kd.R_slice HO321.out
                  subst eo26
                  obtain ⟨Ao27, co27, eo27⟩ := Kd.R_slice HO324.out
                  subst eo27
                  go_wp2_with ((with_reducible refine gate_callee (f := 14) rfl ?_); refine Aside0.out (p := _) ?_)
                  refine ⟨?_⟩
                  refine goesL_ (some 21) rfl rfl Try.func14 (by kernel_rfl) rfl #[.slice Ao26 t319.length co26, .slice Ao27 t322.length co27] rfl (by (try simp only [List.map_toArray, List.map_cons, List.map_nil]); first | done | rfl | (simp only [List.length_drop, List.length_take]; rfl)) ?_
                  (with_reducible refine (testamurref03_Same.calls kj10 _ _ t319 _ _ t322 true _ ?side1 ?side2 ?side3 ?side4 A15.out).mono ?_)
                  (case side1 => repeat (first | exact (Kd.R_reads' HO321.out).2.2 | (with_reducible refine Kd.C_alloc ?_ _) | (with_reducible refine Kd.C_drewN ?_ _) | (with_reducible refine Kd.C_drew ?_)))
                  (case side2 => exact (Kd.R_reads' HO321.out).2.1)
                  (case side3 => repeat (first | exact (Kd.R_reads' HO324.out).2.2 | (with_reducible refine Kd.C_alloc ?_ _) | (with_reducible refine Kd.C_drewN ?_ _) | (with_reducible refine Kd.C_drew ?_)))
                  (case side4 => exact (Kd.R_reads' HO324.out).2.1)
                  rintro e w' ⟨rfl, ⟨nd, rfl⟩⟩
                  refine ⟨_, rfl, ?_⟩
                  go_wp2_with (go_at_call 19; (with_reducible refine (spans_Meet.calls _ _ l0 _ _ l1 t326 _ ?side1 ?side2 ?side3 ?side4 A17.out).mono ?_); (case side1 => repeat (first | exact (Kd.C_below HR0.out (by repeat (first | (with_reducible first | exact HB.out | apply below_alloc | apply pw_below_drewN | apply below_drew1) | exact HB.out))) | (with_reducible refine Kd.C_alloc ?_ _) | (with_reducible refine Kd.C_drewN ?_ _) | (with_reducible refine Kd.C_drew ?_))); (case side2 => exact HC0.out); (case side3 => repeat (first | exact (Kd.C_below HR1.out (by repeat (first | (with_reducible first | exact HB.out | apply below_alloc | apply pw_below_drewN | apply below_drew1) | exact HB.out))) | (with_reducible refine Kd.C_alloc ?_ _) | (with_reducible refine Kd.C_drewN ?_ _) | (with_reducible refine Kd.C_drew ?_))); (case side4 => exact HC1.out); refine Aside0.out (p := _) ?_)
                  refine ⟨?_⟩
                  rintro e w28 ⟨v327, rfl, ho0, hb⟩
                  have n2_ := Aside0.mk (Kd.R_lower ho0 (below_size (by repeat (first | (with_reducible first | exact HB.out | apply below_alloc | apply pw_below_drewN | apply below_drew1) | exact HB.out))))
                  have n3_ := Aside0.mk (below_step (by repeat (first | (with_reducible first | exact HB.out | apply below_alloc | apply pw_below_drewN | apply below_drew1) | exact HB.out)) hb)
                  clear HO321
                  clear HO324
                  clear HB
                  have HO328 := n2_
                  have HB := n3_
                  clear n2_ n3_
                  (try clear hb)
                  (try clear hb2)
                  (try clear hk)
                  (try clear hi)
                  (try clear ho0)
                  go_wp2_with (go_at_call 20; (with_reducible refine (testamurref03_Meet.calls kj10 _ _ l0 _ _ l1 t329 _ ?side1 ?side2 ?side3 ?side4 A18.out).mono ?_); (case side1 => repeat (first | exact (Kd.C_below HR0.out HB.out) | (with_reducible refine Kd.C_alloc ?_ _) | (with_reducible refine Kd.C_drewN ?_ _) | (with_reducible refine Kd.C_drew ?_))); (case side2 => exact HC0.out); (case side3 => repeat (first | exact (Kd.C_below HR1.out HB.out) | (with_reducible refine Kd.C_alloc ?_ _) | (with_reducible refine Kd.C_drewN ?_ _) | (with_reducible refine Kd.C_drew ?_))); (case side4 => exact HC1.out); refine Aside0.out (p := _) ?_)
                  refine ⟨?_⟩
                  rintro e w29 ⟨v330, rfl, ho0, hb⟩
                  have n2_ := Aside0.mk (Kd.R_elder' (by (with_reducible repeat (first | apply Kd.R_alloc | apply Kd.R_drewN | apply Kd.R_drew)); exact HO328.out) (Kd.R_base ho0) hb)
                  have n3_ := Aside0.mk (Kd.R_lower ho0 (below_size (by repeat (first | (with_reducible first | exact HB.out | apply below_alloc | apply pw_below_drewN | apply below_drew1) | exact HB.out))))
                  have n4_ := Aside0.mk (below_step (by repeat (first | (with_reducible first | exact HB.out | apply below_alloc | apply pw_below_drewN | apply below_drew1) | exact HB.out)) hb)
                  clear HO328
                  clear HB
                  have HO328 := n2_
                  have HO331 := n3_
                  have HB := n4_
                  clear n2_ n3_ n4_
                  (try clear hb)
                  (try clear hb2)
                  (try clear hk)
                  (try clear hi)
                  (try clear ho0)
                  obtain ⟨Ao30, co30, eo30⟩ := Kd.R_slice HO328.out
                  subst eo30
                  obtain ⟨Ao31, co31, eo31⟩ := Kd.R_slice HO331.out
                  subst eo31
                  go_wp2_with (go_at_call 14; (with_reducible refine (testamurref03_Same.calls kj10 _ _ t326 _ _ t329 true _ ?side1 ?side2 ?side3 ?side4 A19.out).mono ?_); (case side1 => repeat (first | exact (Kd.R_reads' HO328.out).2.2 | (with_reducible refine Kd.C_alloc ?_ _) | (with_reducible refine Kd.C_drewN ?_ _) | (with_reducible refine Kd.C_drew ?_))); (case side2 => exact (Kd.R_reads' HO328.out).2.1); (case side3 => repeat (first | exact (Kd.R_reads' HO331.out).2.2 | (with_reducible refine Kd.C_alloc ?_ _) | (with_reducible refine Kd.C_drewN ?_ _) | (with_reducible refine Kd.C_drew ?_))); (case side4 => exact (Kd.R_reads' HO331.out).2.1); refine Aside0.out (p := _) ?_)
                  refine ⟨?_⟩
                  rintro e w' ⟨rfl, ⟨nd, rfl⟩⟩
                  go_wp2_with (go_at_call 21; (with_reducible refine (spans_Minus.calls _ _ l0 _ _ l1 t333 _ ?side1 ?side2 ?side3 ?side4 A21.out).mono ?_); (case side1 => repeat (first | exact (Kd.C_below HR0.out (by repeat (first | (with_reducible first | exact HB.out | apply below_alloc | apply pw_below_drewN | apply below_drew1) | exact HB.out))) | (with_reducible refine Kd.C_alloc ?_ _) | (with_reducible refine Kd.C_drewN ?_ _) | (with_reducible refine Kd.C_drew ?_))); (case side2 => exact HC0.out); (case side3 => repeat (first | exact (Kd.C_below HR1.out (by repeat (first | (with_reducible first | exact HB.out | apply below_alloc | apply pw_below_drewN | apply below_drew1) | exact HB.out))) | (with_reducible refine Kd.C_alloc ?_ _) | (with_reducible refine Kd.C_drewN ?_ _) | (with_reducible refine Kd.C_drew ?_))); (case side4 => exact HC1.out); refine Aside0.out (p := _) ?_)
                  refine ⟨?_⟩
                  rintro e w32 ⟨v334, rfl, ho0, hb⟩
                  have n4_ := Aside0.mk (Kd.R_lower ho0 (below_size (by repeat (first | (with_reducible first | exact HB.out | apply below_alloc | apply pw_below_drewN | apply below_drew1) | exact HB.out))))
                  have n5_ := Aside0.mk (below_step (by repeat (first | (with_reducible first | exact HB.out | apply below_alloc | apply pw_below_drewN | apply below_drew1) | exact HB.out)) hb)
                  clear HO328
                  clear HO331
                  clear HB
                  have HO335 := n4_
                  have HB := n5_
                  clear n4_ n5_
                  (try clear hb)
                  (try clear hb2)
                  (try clear hk)
                  (try clear hi)
                  (try clear ho0)
                  go_wp2_with (go_at_call 22; (with_reducible refine (testamurref03_Minus.calls kj10 _ _ l0 _ _ l1 t336 _ ?side1 ?side2 ?side3 ?side4 A22.out).mono ?_); (case side1 => repeat (first | exact (Kd.C_below HR0.out HB.out) | (with_reducible refine Kd.C_alloc ?_ _) | (with_reducible refine Kd.C_drewN ?_ _) | (with_reducible refine Kd.C_drew ?_))); (case side2 => exact HC0.out); (case side3 => repeat (first | exact (Kd.C_below HR1.out HB.out) | (with_reducible refine Kd.C_alloc ?_ _) | (with_reducible refine Kd.C_drewN ?_ _) | (with_reducible refine Kd.C_drew ?_))); (case side4 => exact HC1.out); refine Aside0.out (p := _) ?_)
                  refine ⟨?_⟩
                  rintro e w33 ⟨v337, rfl, ho0, hb⟩
                  have n4_ := Aside0.mk (Kd.R_elder' (by (with_reducible repeat (first | apply Kd.R_alloc | apply Kd.R_drewN | apply Kd.R_drew)); exact HO335.out) (Kd.R_base ho0) hb)
                  have n5_ := Aside0.mk (Kd.R_lower ho0 (below_size (by repeat (first | (with_reducible first | exact HB.out | apply below_alloc | apply pw_below_drewN | apply below_drew1) | exact HB.out))))
                  have n6_ := Aside0.mk (below_step (by repeat (first | (with_reducible first | exact HB.out | apply below_alloc | apply pw_below_drewN | apply below_drew1) | exact HB.out)) hb)
                  clear HO335
                  clear HB
                  have HO335 := n4_
                  have HO338 := n5_
                  have HB := n6_
                  clear n4_ n5_ n6_
                  (try clear hb)
                  (try clear hb2)
                  (try clear hk)
                  (try clear hi)
                  (try clear ho0)
                  obtain ⟨Ao34, co34, eo34⟩ := Kd.R_slice HO335.out
                  subst eo34
                  obtain ⟨Ao35, co35, eo35⟩ := Kd.R_slice HO338.out
                  subst eo35
                  go_wp2_with (go_at_call 14; (with_reducible refine (testamurref03_Same.calls kj10 _ _ t333 _ _ t336 t339 _ ?side1 ?side2 ?side3 ?side4 A23.out).mono ?_); (case side1 => repeat (first | exact (Kd.R_reads' HO335.out).2.2 | (with_reducible refine Kd.C_alloc ?_ _) | (with_reducible refine Kd.C_drewN ?_ _) | (with_reducible refine Kd.C_drew ?_))); (case side2 => exact (Kd.R_reads' HO335.out).2.1); (case side3 => repeat (first | exact (Kd.R_reads' HO338.out).2.2 | (with_reducible refine Kd.C_alloc ?_ _) | (with_reducible refine Kd.C_drewN ?_ _) | (with_reducible refine Kd.C_drew ?_))); (case side4 => exact (Kd.R_reads' HO338.out).2.1); refine Aside0.out (p := _) ?_)
                  refine ⟨?_⟩
                  rintro e w' ⟨rfl, ⟨nd, rfl⟩⟩
                  go_wp2
                  go_ret
                  exact ⟨by first | rfl | (simp [errW_none, errW_some] <;> rfl) | (simp [*, errW_none, errW_some] <;> rfl), by repeat (first | (with_reducible first | exact HB.out | apply below_alloc | apply pw_below_drewN | apply below_drew1) | exact HB.out)⟩
                · replace c20 := Bool.eq_false_iff.mpr c20
                  subst c20
                  have H1 : (none) = some r := by rw [if_neg (show ¬ (false = true) by decide)] at H; exact H
                  clear H
                  have H := H1
                  clear H1
                  exact absurd H (by simp)
              · replace c16 := Bool.eq_false_iff.mpr c16
                subst c16
                have H1 : (none) = some r := by rw [if_neg (show ¬ (false = true) by decide)] at H; exact H
                clear H
                have H := H1
                clear H1
                exact absurd H (by simp)

/-! ### testamurref03_Has: function 24 -/
mutual
def testamurref03_Has.j0 : Nat → List (S31) → Int → Bool → Option (Bool)
  | 0, _, _, _ => none
  | k + 1, x0, x1, x11 => if x11 = true then (some false) else (testamurref03_Has.l0 k x0 x1 0)
def testamurref03_Has.l0 : Nat → List (S31) → Int → Int → Option (Bool)
  | 0, _, _, _ => none
  | k + 1, x0, x1, x5 => if x5 < (x0.length : Int) then (if 0 ≤ x5 then (if ((rd_T31 x0 x5).f0) ≤ x1 then (if x1 < ((rd_T31 x0 x5).f1) then (some true) else (testamurref03_Has.l0 k x0 x1 (wrap64 (x5 + 1)))) else (testamurref03_Has.l0 k x0 x1 (wrap64 (x5 + 1)))) else (none)) else (some false)
end
def testamurref03_Has.f (k : Nat) (l0 : List (S31)) (a1 : Int) : Option (Bool) := if a1 < 0 then (testamurref03_Has.j0 k l0 a1 true) else (testamurref03_Has.j0 k l0 a1 (decide (a1 ≥ 1024)))
theorem testamurref03_Has.mono_l : ∀ k, (∀ y0 y1 y2, LeO (testamurref03_Has.j0 k y0 y1 y2) (testamurref03_Has.j0 (k + 1) y0 y1 y2)) ∧ (∀ y0 y1 y2, LeO (testamurref03_Has.l0 k y0 y1 y2) (testamurref03_Has.l0 (k + 1) y0 y1 y2))
  | 0 => ⟨fun _ _ _ r h => by simp [testamurref03_Has.j0] at h, fun _ _ _ r h => by simp [testamurref03_Has.l0] at h⟩
  | k + 1 => by
    obtain ⟨ih0, ih1⟩ := testamurref03_Has.mono_l k
    refine ⟨?_, ?_⟩
    · intro y0 y1 y2
      unfold testamurref03_Has.j0
      repeat' first
      | (with_reducible exact ih0 _ _ _)
      | (with_reducible exact ih1 _ _ _)
      | (with_reducible exact LeO.refl _)
      | (with_reducible exact LeO.none _)
      | (with_reducible refine LeO.ite ?_ ?_)
      | (with_reducible refine LeO.bind ?_ (fun _ => ?_))
      | exact ih0 _ _ _
      | exact ih1 _ _ _
      | exact LeO.none _
      | refine LeO.ite ?_ ?_
      | refine LeO.bind ?_ (fun _ => ?_)
    · intro y0 y1 y2
      unfold testamurref03_Has.l0
      repeat' first
      | (with_reducible exact ih0 _ _ _)
      | (with_reducible exact ih1 _ _ _)
      | (with_reducible exact LeO.refl _)
      | (with_reducible exact LeO.none _)
      | (with_reducible refine LeO.ite ?_ ?_)
      | (with_reducible refine LeO.bind ?_ (fun _ => ?_))
      | exact ih0 _ _ _
      | exact ih1 _ _ _
      | exact LeO.none _
      | refine LeO.ite ?_ ?_
      | refine LeO.bind ?_ (fun _ => ?_)
theorem testamurref03_Has.mono : ∀ a0 a1 k, LeO (testamurref03_Has.f k a0 a1) (testamurref03_Has.f (k + 1) a0 a1) := by
  intro a0 a1 k
  obtain ⟨ih0, ih1⟩ := testamurref03_Has.mono_l k
  unfold testamurref03_Has.f
  repeat' first
      | (with_reducible exact ih0 _ _ _)
      | (with_reducible exact ih1 _ _ _)
      | (with_reducible exact LeO.refl _)
      | (with_reducible exact LeO.none _)
      | (with_reducible refine LeO.ite ?_ ?_)
      | (with_reducible refine LeO.bind ?_ (fun _ => ?_))
      | exact ih0 _ _ _
      | exact ih1 _ _ _
      | exact LeO.none _
      | refine LeO.ite ?_ ?_
      | refine LeO.bind ?_ (fun _ => ?_)
set_option maxHeartbeats 8000000 in
set_option maxRecDepth 100000 in
theorem testamurref03_Has.calls (k : Nat) (A0 : Option Addr) (c0 : Nat) (l0 : List (S31)) (a1 : Int) (r : Bool) (w : World) (hr0 : Kd.C k31 w A0 l0.length l0) (hc0 : l0.length ≤ c0) (h : testamurref03_Has.f k l0 a1 = some r) :
    Calls Try.prog 24 #[.slice A0 l0.length c0, .int .i64 a1] w fun e w' => e = .returned (.bool r) ∧ Drawn0 w w' := by
  have HR0 := Aside0.mk hr0
  have HC0 := Aside0.mk hc0
  clear hr0 hc0
  have H : (if a1 < 0 then (testamurref03_Has.j0 k l0 a1 true) else (testamurref03_Has.j0 k l0 a1 (decide (a1 ≥ 1024)))) = some r := h
  clear h
  have HC3 := Aside0.mk H
  clear H
  go_enter Try.func24, Try.ntmps24
  go_upto_region 1 with (fail)
  go_cut [11] (fun v11 wc => ∃ (kq : Nat) (x11_2 : Bool), v11 = .bool x11_2 ∧ Aside0 (testamurref03_Has.j0 kq l0 a1 x11_2 = some r) ∧ Aside0 (kq ≤ k) ∧ Drawn0 w wc)
  case first =>
    have H := HC3.out
    clear HC3
    by_cases c4 : a1 < 0
    · rw [if_pos c4] at H
      have c4b0 : decide (a1 < 0) = true := decide_eq_true c4
      clear c4
      (first | rw [c4b0] | (simp only [i64_w, i32_w]; rw [c4b0]) | skip)
      have H' := Aside0.mk H
      clear H
      go_wp2
      go_meet
      case rel => exact ⟨_, (true), (by first | rfl | (simp; done) | (simp [*]; done)), H', ⟨by first | omega | exact Nat.le_refl _⟩, by repeat (first | exact Drawn0.refl _ | apply Drawn0.step)⟩
    · rw [if_neg c4] at H
      have c4b0 : decide (a1 < 0) = false := decide_eq_false c4
      clear c4
      (first | rw [c4b0] | (simp only [i64_w, i32_w]; rw [c4b0]) | skip)
      have H' := Aside0.mk H
      clear H
      go_wp2
      go_meet
      case rel => exact ⟨_, (decide (a1 ≥ 1024)), (by first | rfl | (simp; done) | (simp [*]; done)), H', ⟨by first | omega | exact Nat.le_refl _⟩, by repeat (first | exact Drawn0.refl _ | apply Drawn0.step)⟩
  case rest =>
    clear HC3
    try clear c2
    try clear p2
    try clear c4
    try clear c4b0
    obtain ⟨kq, x11_2, rfl, HA, HJ2, ⟨mc2, rfl⟩⟩ := hcut
    cases kq with
    | zero => exact absurd HA.out (by simp [testamurref03_Has.j0])
    | succ kj2 =>
      have H := HA.out
      clear HA
      simp only [testamurref03_Has.j0] at H
      by_cases c5 : x11_2 = true
      · subst c5
        have H1 : (some false) = some r := by rw [if_pos rfl] at H; exact H
        clear H
        have H := H1
        clear H1
        obtain rfl := Option.some.inj H
        go_wp2
        go_ret
        exact ⟨by first | rfl | (simp; done) | (simp [*]; done), by repeat (first | exact Drawn0.refl _ | apply Drawn0.step)⟩
      · replace c5 := Bool.eq_false_iff.mpr c5
        subst c5
        have H1 : (testamurref03_Has.l0 kj2 l0 a1 0) = some r := by rw [if_neg (show ¬ (false = true) by decide)] at H; exact H
        clear H
        have H := H1
        clear H1
        have H' := Aside0.mk H
        clear H
        go_wp2
        go_loopg [5] kj2 (fun kq v5 w' => ∃ (x5_2 : Int), v5 = .int .i64 x5_2 ∧ Aside0 (testamurref03_Has.l0 kq l0 a1 x5_2 = some r) ∧ Aside0 (kq ≤ kj2) ∧ Drawn0 w w')
        case atStart => exact ⟨(0), (by first | rfl | (simp; done) | (simp [*]; done)), H', ⟨Nat.le_refl _⟩, by repeat (first | exact Drawn0.refl _ | apply Drawn0.step)⟩
        case round =>
          clear H'
          try clear c2
          try clear p2
          try clear c4
          try clear c4b0
          try clear c5
          try clear p2
          obtain ⟨x5_2, rfl, HA, HK2, ⟨m2, rfl⟩⟩ := hrel
          cases gk with
          | zero => exact absurd HA.out (by simp [testamurref03_Has.l0])
          | succ k2 =>
            have H := HA.out
            clear HA
            simp only [testamurref03_Has.l0] at H
            by_cases c6 : x5_2 < (l0.length : Int)
            · rw [if_pos c6] at H
              have c6b0 : decide (x5_2 < (l0.length : Int)) = true := decide_eq_true c6
              clear c6
              by_cases c7 : 0 ≤ x5_2
              · rw [if_pos c7] at H
                have c7b0 : decide (0 ≤ x5_2) = true := decide_eq_true c7
                clear c7
                by_cases c8 : ((rd_T31 l0 x5_2).f0) ≤ a1
                · rw [if_pos c8] at H
                  have c8b0 : decide (((rd_T31 l0 x5_2).f0) ≤ a1) = true := decide_eq_true c8
                  clear c8
                  by_cases c9 : a1 < ((rd_T31 l0 x5_2).f1)
                  · rw [if_pos c9] at H
                    have c9b0 : decide (a1 < ((rd_T31 l0 x5_2).f1)) = true := decide_eq_true c9
                    clear c9
                    obtain rfl := Option.some.inj H
                    have p340 : 0 ≤ (x5_2 : Int) := of_decide_eq_true (by first | (with_reducible assumption) | assumption)
                    have q340 : x5_2 < (l0.length : Int) := of_decide_eq_true (by first | (with_reducible assumption) | assumption)
                    obtain ⟨ad340, e340, hx340_0, hx340_1⟩ := at_T31 HR0.out x5_2 p340 q340
                    cases e340
                    replace p340 := eq_true p340
                    replace q340 := eq_true q340
                    have p341 : 0 ≤ (x5_2 : Int) := of_decide_eq_true (by first | (with_reducible assumption) | assumption)
                    have q341 : x5_2 < (l0.length : Int) := of_decide_eq_true (by first | (with_reducible assumption) | assumption)
                    obtain ⟨ad341, e341, hx341_0, hx341_1⟩ := at_T31 HR0.out x5_2 p341 q341
                    obtain rfl : ad340 = ad341 := (by injection e341)
                    replace p341 := eq_true p341
                    replace q341 := eq_true q341
                    go_wp2
                    go_ret
                    exact ⟨by first | rfl | (simp; done) | (simp [*]; done), by repeat (first | exact Drawn0.refl _ | apply Drawn0.step)⟩
                  · rw [if_neg c9] at H
                    have c9b0 : decide (a1 < ((rd_T31 l0 x5_2).f1)) = false := decide_eq_false c9
                    clear c9
                    have H' := Aside0.mk H
                    clear H
                    have p340 : 0 ≤ (x5_2 : Int) := of_decide_eq_true (by first | (with_reducible assumption) | assumption)
                    have q340 : x5_2 < (l0.length : Int) := of_decide_eq_true (by first | (with_reducible assumption) | assumption)
                    obtain ⟨ad340, e340, hx340_0, hx340_1⟩ := at_T31 HR0.out x5_2 p340 q340
                    cases e340
                    replace p340 := eq_true p340
                    replace q340 := eq_true q340
                    have p341 : 0 ≤ (x5_2 : Int) := of_decide_eq_true (by first | (with_reducible assumption) | assumption)
                    have q341 : x5_2 < (l0.length : Int) := of_decide_eq_true (by first | (with_reducible assumption) | assumption)
                    obtain ⟨ad341, e341, hx341_0, hx341_1⟩ := at_T31 HR0.out x5_2 p341 q341
                    obtain rfl : ad340 = ad341 := (by injection e341)
                    replace p341 := eq_true p341
                    replace q341 := eq_true q341
                    go_wp2
                    go_roundg k2
                    case measure => have := HJ2.out; have := HK2.out; omega
                    case rel => exact ⟨(wrap64 (x5_2 + 1)), (by first | rfl | (simp; done) | (simp [*]; done)), H', ⟨by have := HJ2.out; have := HK2.out; omega⟩, by repeat (first | exact Drawn0.refl _ | apply Drawn0.step)⟩
                · rw [if_neg c8] at H
                  have c8b0 : decide (((rd_T31 l0 x5_2).f0) ≤ a1) = false := decide_eq_false c8
                  clear c8
                  have H' := Aside0.mk H
                  clear H
                  have p340 : 0 ≤ (x5_2 : Int) := of_decide_eq_true (by first | (with_reducible assumption) | assumption)
                  have q340 : x5_2 < (l0.length : Int) := of_decide_eq_true (by first | (with_reducible assumption) | assumption)
                  obtain ⟨ad340, e340, hx340_0, hx340_1⟩ := at_T31 HR0.out x5_2 p340 q340
                  cases e340
                  replace p340 := eq_true p340
                  replace q340 := eq_true q340
                  go_wp2
                  go_roundg k2
                  case measure => have := HJ2.out; have := HK2.out; omega
                  case rel => exact ⟨(wrap64 (x5_2 + 1)), (by first | rfl | (simp; done) | (simp [*]; done)), H', ⟨by have := HJ2.out; have := HK2.out; omega⟩, by repeat (first | exact Drawn0.refl _ | apply Drawn0.step)⟩
              · rw [if_neg c7] at H
                exact absurd H (by simp)
            · rw [if_neg c6] at H
              have c6b0 : decide (x5_2 < (l0.length : Int)) = false := decide_eq_false c6
              clear c6
              obtain rfl := Option.some.inj H
              go_wp2
              go_ret
              exact ⟨by first | rfl | (simp; done) | (simp [*]; done), by repeat (first | exact Drawn0.refl _ | apply Drawn0.step)⟩

end Go.Proofs.Ytcemfklhbgnflaa.P
