-- printed by gprint.py (a program of this seat over the kit's print.py): Lean checks it
import Derived.Test.YtcemfklhbgnflaaP0
import Derived.Test.YtcemfklhbgnflaaP2
import Derived.Test.YtcemfklhbgnflaaP3
import Derived.Test.YtcemfklhbgnflaaP4
import Derived.Test.YtcemfklhbgnflaaG
import Derived.Test.YtcemfklhbgnflaaH
namespace Go.Proofs.Ytcemfklhbgnflaa.P
open Go.RowKit Go.Proofs.YtcemfklhbgnflaaW.PrintWords Go.Proofs.YtcemfklhbgnflaaW.PrintLast Go.Proofs.YtcemfklhbgnflaaW.PrintMore
attribute [local go_sem] max2_int min2_int max_two min_two max_three min_three max_four min_four   -- for this text's walks alone
set_option linter.unusedVariables false
set_option linter.unusedSimpArgs false

/-! ### testamurlaw03_SpansCovers: function 9 -/
mutual
def testamurlaw03_SpansCovers.j0 : Nat → List (S31) → Int → Int → Int → Option (Bool)
  | 0, _, _, _, _ => none
  | k + 1, x0, x1, x2, x3 => (testamurref03_Few.f x0).bind fun t475 => (if t475 = true then (testamurlaw03_SpansCovers.j1 k x0 x1 x2 x3) else (some true))
def testamurlaw03_SpansCovers.j1 : Nat → List (S31) → Int → Int → Int → Option (Bool)
  | 0, _, _, _, _ => none
  | k + 1, x0, x1, x2, x3 => (spans_Covers.f x0 (Int.tmod (wrap64 (x1)) 1025) (Int.tmod (wrap64 (x2)) 1025)).bind fun t477 => (if (Int.tmod (wrap64 (x1)) 1025) ≥ (Int.tmod (wrap64 (x2)) 1025) then (some t477) else (testamurlaw03_SpansCovers.j2 k x0 x3 (Int.tmod (wrap64 (x1)) 1025) (Int.tmod (wrap64 (x2)) 1025) t477 (Int.tmod (wrap64 (x1)) 1025) (Int.tmod (wrap64 (x2)) 1025)))
def testamurlaw03_SpansCovers.j2 : Nat → List (S31) → Int → Int → Int → Bool → Int → Int → Option (Bool)
  | 0, _, _, _, _, _, _, _ => none
  | k + 1, x0, x3, x9, x10, x12, x477000, x477001 => if (wrap64 ((wrap64 (x10 - x9)) + 1)) = 0 then (none) else ((spans_Minus.f (([(⟨x477000, x477001⟩ : S31)] : List (S31))) x0).bind fun t481 => (if (x12 == ((t481.length : Int) == 0)) = true then ((spans_Covers.f x0 x9 (wrap64 (x9 + (Int.tmod (wrap64 (x3)) (wrap64 ((wrap64 (x10 - x9)) + 1)))))).bind fun t484 => (if t484 = true then ((spans_Covers.f x0 (wrap64 (x9 + (Int.tmod (wrap64 (x3)) (wrap64 ((wrap64 (x10 - x9)) + 1))))) x10).bind fun t485 => (if (x12 == t485) = true then ((spans_Covers.f x0 x9 (wrap64 (1025 + (wrap64 (x3))))).bind fun t486 => (some (!t486))) else (none))) else (if (x12 == false) = true then ((spans_Covers.f x0 x9 (wrap64 (1025 + (wrap64 (x3))))).bind fun t487 => (some (!t487))) else (none)))) else (none)))
end
def testamurlaw03_SpansCovers.f (k : Nat) (l0 : List (S31)) (a1 : Int) (a2 : Int) (a3 : Int) : Option (Bool) := (testamurlaw03_sane.f k).bind fun t474 => (if t474 = true then (testamurlaw03_SpansCovers.j0 k l0 a1 a2 a3) else (none))
theorem testamurlaw03_SpansCovers.mono_l : ∀ k, (∀ y0 y1 y2 y3, LeO (testamurlaw03_SpansCovers.j0 k y0 y1 y2 y3) (testamurlaw03_SpansCovers.j0 (k + 1) y0 y1 y2 y3)) ∧ (∀ y0 y1 y2 y3, LeO (testamurlaw03_SpansCovers.j1 k y0 y1 y2 y3) (testamurlaw03_SpansCovers.j1 (k + 1) y0 y1 y2 y3)) ∧ (∀ y0 y1 y2 y3 y4 y5 y6, LeO (testamurlaw03_SpansCovers.j2 k y0 y1 y2 y3 y4 y5 y6) (testamurlaw03_SpansCovers.j2 (k + 1) y0 y1 y2 y3 y4 y5 y6))
  | 0 => ⟨fun _ _ _ _ r h => by simp [testamurlaw03_SpansCovers.j0] at h, fun _ _ _ _ r h => by simp [testamurlaw03_SpansCovers.j1] at h, fun _ _ _ _ _ _ _ r h => by simp [testamurlaw03_SpansCovers.j2] at h⟩
  | k + 1 => by
    obtain ⟨ih0, ih1, ih2⟩ := testamurlaw03_SpansCovers.mono_l k
    refine ⟨?_, ?_, ?_⟩
    · intro y0 y1 y2 y3
      unfold testamurlaw03_SpansCovers.j0
      repeat' first
      | (with_reducible exact ih0 _ _ _ _)
      | (with_reducible exact ih1 _ _ _ _)
      | (with_reducible exact ih2 _ _ _ _ _ _ _)
      | (with_reducible exact testamurlaw03_sane.mono _)
      | (with_reducible exact LeO.refl _)
      | (with_reducible exact LeO.none _)
      | (with_reducible refine LeO.ite ?_ ?_)
      | (with_reducible refine LeO.bind ?_ (fun _ => ?_))
      | exact ih0 _ _ _ _
      | exact ih1 _ _ _ _
      | exact ih2 _ _ _ _ _ _ _
      | exact testamurlaw03_sane.mono _
      | exact LeO.none _
      | refine LeO.ite ?_ ?_
      | refine LeO.bind ?_ (fun _ => ?_)
    · intro y0 y1 y2 y3
      unfold testamurlaw03_SpansCovers.j1
      repeat' first
      | (with_reducible exact ih0 _ _ _ _)
      | (with_reducible exact ih1 _ _ _ _)
      | (with_reducible exact ih2 _ _ _ _ _ _ _)
      | (with_reducible exact testamurlaw03_sane.mono _)
      | (with_reducible exact LeO.refl _)
      | (with_reducible exact LeO.none _)
      | (with_reducible refine LeO.ite ?_ ?_)
      | (with_reducible refine LeO.bind ?_ (fun _ => ?_))
      | exact ih0 _ _ _ _
      | exact ih1 _ _ _ _
      | exact ih2 _ _ _ _ _ _ _
      | exact testamurlaw03_sane.mono _
      | exact LeO.none _
      | refine LeO.ite ?_ ?_
      | refine LeO.bind ?_ (fun _ => ?_)
    · intro y0 y1 y2 y3 y4 y5 y6
      unfold testamurlaw03_SpansCovers.j2
      repeat' first
      | (with_reducible exact ih0 _ _ _ _)
      | (with_reducible exact ih1 _ _ _ _)
      | (with_reducible exact ih2 _ _ _ _ _ _ _)
      | (with_reducible exact testamurlaw03_sane.mono _)
      | (with_reducible exact LeO.refl _)
      | (with_reducible exact LeO.none _)
      | (with_reducible refine LeO.ite ?_ ?_)
      | (with_reducible refine LeO.bind ?_ (fun _ => ?_))
      | exact ih0 _ _ _ _
      | exact ih1 _ _ _ _
      | exact ih2 _ _ _ _ _ _ _
      | exact testamurlaw03_sane.mono _
      | exact LeO.none _
      | refine LeO.ite ?_ ?_
      | refine LeO.bind ?_ (fun _ => ?_)
theorem testamurlaw03_SpansCovers.mono : ∀ a0 a1 a2 a3 k, LeO (testamurlaw03_SpansCovers.f k a0 a1 a2 a3) (testamurlaw03_SpansCovers.f (k + 1) a0 a1 a2 a3) := by
  intro a0 a1 a2 a3 k
  obtain ⟨ih0, ih1, ih2⟩ := testamurlaw03_SpansCovers.mono_l k
  unfold testamurlaw03_SpansCovers.f
  repeat' first
      | (with_reducible exact ih0 _ _ _ _)
      | (with_reducible exact ih1 _ _ _ _)
      | (with_reducible exact ih2 _ _ _ _ _ _ _)
      | (with_reducible exact testamurlaw03_sane.mono _)
      | (with_reducible exact LeO.refl _)
      | (with_reducible exact LeO.none _)
      | (with_reducible refine LeO.ite ?_ ?_)
      | (with_reducible refine LeO.bind ?_ (fun _ => ?_))
      | exact ih0 _ _ _ _
      | exact ih1 _ _ _ _
      | exact ih2 _ _ _ _ _ _ _
      | exact testamurlaw03_sane.mono _
      | exact LeO.none _
      | refine LeO.ite ?_ ?_
      | refine LeO.bind ?_ (fun _ => ?_)
set_option maxHeartbeats 8000000 in
set_option maxRecDepth 100000 in
theorem testamurlaw03_SpansCovers.calls (k : Nat) (A0 : Option Addr) (c0 : Nat) (l0 : List (S31)) (a1 : Int) (a2 : Int) (a3 : Int) (r : Bool) (w : World) (hr0 : Kd.C k31 w A0 l0.length l0) (hc0 : l0.length ≤ c0) (h : testamurlaw03_SpansCovers.f k l0 a1 a2 a3 = some r) :
    Calls Try.prog 9 #[.slice A0 l0.length c0, .int .u16 a1, .int .u16 a2, .int .u16 a3] w fun e w' => e = .returned (.bool r) ∧ Below w.heap.size w w' := by
  have hu31 := Try.underlying31
  have HR0 := Aside0.mk hr0
  have HC0 := Aside0.mk hc0
  clear hr0 hc0
  have HB := Aside0.mk (Below.refl w.heap.size w)
  have H : ((testamurlaw03_sane.f k).bind fun t474 => (if t474 = true then (testamurlaw03_SpansCovers.j0 k l0 a1 a2 a3) else (none))) = some r := h
  clear h
  replace H := Option.bind_eq_some_iff.mp H
  obtain ⟨t474, A50, H⟩ := H
  replace H : (if t474 = true then (testamurlaw03_SpansCovers.j0 k l0 a1 a2 a3) else (none)) = some r := H
  have A5 := Aside0.mk A50
  clear A50
  have HC6 := Aside0.mk H
  clear H
  go_enter Try.func9, Try.ntmps9
  try simp only [List.append]
  go_upto_if 15 with (first | ((with_reducible refine gate_callee (f := 10) rfl ?_); refine goesL_ (some 14) rfl rfl Try.func10 (by kernel_rfl) rfl #[] rfl (by (try simp only [List.map_toArray, List.map_cons, List.map_nil]); first | done | rfl | (simp only [List.length_drop, List.length_take]; rfl)) ?_; (with_reducible refine (testamurlaw03_sane.calls k  t474 _ A5.out).mono ?_); rintro e w7 ⟨rfl, hb⟩; refine ⟨_, rfl, ?_⟩; have n0_ := Aside0.mk (below_step (by repeat (first | (with_reducible first | exact HB.out | apply below_alloc | apply pw_below_drewN | apply below_drew1) | exact HB.out)) hb); clear HB; have HB := n0_; clear n0_; (try clear hb); (try clear hb2); (try clear hk); (try clear hi)))
  (try simp only [Act.put, List.setIfInBounds_toArray, List.set_cons_zero, List.set_cons_succ])
  go_cut [] (fun wc => ∃ (kq : Nat), Aside0 (testamurlaw03_SpansCovers.j0 kq l0 a1 a2 a3 = some r) ∧ Aside0 (kq ≤ k) ∧ Aside0 (Below w.heap.size w wc))
  case first =>
    have H := HC6.out
    clear HC6
    by_cases c8 : t474 = true
    · subst c8
      have H1 : (testamurlaw03_SpansCovers.j0 k l0 a1 a2 a3) = some r := by rw [if_pos rfl] at H; exact H
      clear H
      have H := H1
      clear H1
      have H' := Aside0.mk H
      clear H
      go_wp2
      go_meet
      case rel => exact ⟨_, H', ⟨by first | omega | exact Nat.le_refl _⟩, ⟨by repeat (first | (with_reducible first | exact HB.out | apply below_alloc | apply pw_below_drewN | apply below_drew1) | exact HB.out)⟩⟩
    · replace c8 := Bool.eq_false_iff.mpr c8
      subst c8
      have H1 : (none) = some r := by rw [if_neg (show ¬ (false = true) by decide)] at H; exact H
      clear H
      have H := H1
      clear H1
      exact absurd H (by simp)
  case rest =>
    clear HC6
    try clear c1
    try clear p2
    try clear c8
    obtain ⟨kq, HA, HJ5, HB⟩ := hcut
    cases kq with
    | zero => exact absurd HA.out (by simp [testamurlaw03_SpansCovers.j0])
    | succ kj5 =>
      have H := HA.out
      clear HA
      simp only [testamurlaw03_SpansCovers.j0] at H
      replace H := Option.bind_eq_some_iff.mp H
      obtain ⟨t475, A90, H⟩ := H
      replace H : (if t475 = true then (testamurlaw03_SpansCovers.j1 kj5 l0 a1 a2 a3) else (some true)) = some r := H
      have A9 := Aside0.mk A90
      clear A90
      have HC10 := Aside0.mk H
      clear H
      go_upto_if 18 with (first | ((with_reducible refine gate_callee (f := 11) rfl ?_); refine goesL_ (some 17) rfl rfl Try.func11 (by kernel_rfl) rfl #[.slice A0 l0.length c0] rfl (by (try simp only [List.map_toArray, List.map_cons, List.map_nil]); first | done | rfl | (simp only [List.length_drop, List.length_take]; rfl)) ?_; (with_reducible refine (testamurref03_Few.calls _ _ l0 t475 _ ?side1 ?side2 A9.out).mono ?_); (case side1 => repeat (first | exact (Kd.C_below HR0.out HB.out) | (with_reducible refine Kd.C_alloc ?_ _) | (with_reducible refine Kd.C_drewN ?_ _) | (with_reducible refine Kd.C_drew ?_))); (case side2 => exact HC0.out); rintro e w' ⟨rfl, ⟨nd, rfl⟩⟩; refine ⟨_, rfl, ?_⟩))
      (try simp only [Act.put, List.setIfInBounds_toArray, List.set_cons_zero, List.set_cons_succ])
      go_cut [] (fun wc => ∃ (kq : Nat), Aside0 (testamurlaw03_SpansCovers.j1 kq l0 a1 a2 a3 = some r) ∧ Aside0 (kq ≤ kj5) ∧ Aside0 (Below w.heap.size w wc))
      case first =>
        have H := HC10.out
        clear HC10
        by_cases c11 : t475 = true
        · subst c11
          have H1 : (testamurlaw03_SpansCovers.j1 kj5 l0 a1 a2 a3) = some r := by rw [if_pos rfl] at H; exact H
          clear H
          have H := H1
          clear H1
          have H' := Aside0.mk H
          clear H
          go_wp2
          go_meet
          case rel => exact ⟨_, H', ⟨by have := HJ5.out; first | omega | exact Nat.le_refl _⟩, ⟨by repeat (first | (with_reducible first | exact HB.out | apply below_alloc | apply pw_below_drewN | apply below_drew1) | exact HB.out)⟩⟩
        · replace c11 := Bool.eq_false_iff.mpr c11
          subst c11
          have H1 : (some true) = some r := by rw [if_neg (show ¬ (false = true) by decide)] at H; exact H
          clear H
          have H := H1
          clear H1
          obtain rfl := Option.some.inj H
          go_wp2
          go_ret
          exact ⟨by first | rfl | (simp [errW_none, errW_some] <;> rfl) | (simp [*, errW_none, errW_some] <;> rfl), by repeat (first | (with_reducible first | exact HB.out | apply below_alloc | apply pw_below_drewN | apply below_drew1) | exact HB.out)⟩
      case rest =>
        clear HC10
        try clear c1
        try clear p2
        try clear c8
        try clear c9
        try clear c10
        try clear c11
        try clear p2
        obtain ⟨kq, HA, HJ9, HB⟩ := hcut
        cases kq with
        | zero => exact absurd HA.out (by simp [testamurlaw03_SpansCovers.j1])
        | succ kj9 =>
          have H := HA.out
          clear HA
          simp only [testamurlaw03_SpansCovers.j1] at H
          replace H := Option.bind_eq_some_iff.mp H
          obtain ⟨t477, A120, H⟩ := H
          replace H : (if (Int.tmod (wrap64 (a1)) 1025) ≥ (Int.tmod (wrap64 (a2)) 1025) then (some t477) else (testamurlaw03_SpansCovers.j2 kj9 l0 a3 (Int.tmod (wrap64 (a1)) 1025) (Int.tmod (wrap64 (a2)) 1025) t477 (Int.tmod (wrap64 (a1)) 1025) (Int.tmod (wrap64 (a2)) 1025))) = some r := H
          have A12 := Aside0.mk A120
          clear A120
          have HC13 := Aside0.mk H
          clear H
          go_upto_if 33 with (first | ((with_reducible refine gate_dst (N := 11) rfl ?_); refine box_event ?hg (N := 11) ?hd (cs := #[.int .i64 0, .int .i64 0]) (t := 31) ?hr ?_; (case hd => rfl); (case hg => rfl); (case hr => first | (go_simp; done) | (go_simp; rfl)); intro gb476 hg w14 hbox hb; have n0_ := Aside0.mk (below_step (by repeat (first | (with_reducible first | exact HB.out | apply below_alloc | apply pw_below_drewN | apply below_drew1) | exact HB.out)) hb); have n1_ := Aside0.mk (hbox); have n2_ := Aside0.mk ((by rw [hg]; exact (below_size (by repeat (first | (with_reducible first | exact HB.out | apply below_alloc | apply pw_below_drewN | apply below_drew1) | exact HB.out))) : w.heap.size ≤ gb476)); have n3_ := Aside0.mk ((by rw [hg]; exact (below_size (by repeat (first | (with_reducible first | exact HB.out | apply below_alloc | apply pw_below_drewN | apply below_drew1) | exact HB.out))) : w.heap.size ≤ gb476)); clear HB; have HB := n0_; have BK476 := n1_; have GW476 := n2_; have GE476 := n3_; clear n0_ n1_ n2_ n3_; clear hb hbox hg; have hcz15_0 : w14.cell? ⟨gb476, 0, none⟩ = some (.int .i64 0) := (blk_cell BK476.out 0).trans rfl; have hcz15_1 : w14.cell? ⟨gb476, 1, none⟩ = some (.int .i64 0) := (blk_cell BK476.out 1).trans rfl; have hfz15_0 := blk_frozen BK476.out 0; have hfz15_1 := blk_frozen BK476.out 1) | ((with_reducible refine gate_callee (f := 25) rfl ?_); refine goesL_ (some 30) rfl rfl Try.func25 (by kernel_rfl) rfl #[.slice A0 l0.length c0, .agg #[.int .i64 (Int.tmod (wrap64 (a1)) 1025), .int .i64 (Int.tmod (wrap64 (a2)) 1025)]] rfl (by (try simp only [List.map_toArray, List.map_cons, List.map_nil]); first | done | rfl | (simp only [List.length_drop, List.length_take]; rfl)) ?_; (with_reducible refine (spans_Covers.calls _ _ l0 (Int.tmod (wrap64 (a1)) 1025) (Int.tmod (wrap64 (a2)) 1025) t477 _ ?side1 ?side2 A12.out).mono ?_); (case side1 => exact Kd.C_below HR0.out (by repeat (first | (with_reducible first | exact HB.out | apply below_alloc | apply pw_below_drewN | apply below_drew1 | refine below_set ?_ GE476.out) | exact HB.out))); (case side2 => exact HC0.out); rintro e w16 ⟨rfl, hb⟩; refine ⟨_, rfl, ?_⟩; have n0_ := Aside0.mk (blk_below (g := gb476) (o := .cells #[.int .i64 (Int.tmod (wrap64 (a1)) 1025), .int .i64 (Int.tmod (wrap64 (a2)) 1025)] 31 (0, 0)) (by (with_reducible repeat (first | refine blk_drewN ?_ _ | refine blk_drew ?_ | refine blk_alloc ?_ _)); refine blk_put (cs := #[.int .i64 (Int.tmod (wrap64 (a1)) 1025), .int .i64 0]) ?_ 1 _ rfl; (with_reducible repeat (first | refine blk_drewN ?_ _ | refine blk_drew ?_ | refine blk_alloc ?_ _)); refine blk_put (cs := #[.int .i64 0, .int .i64 0]) ?_ 0 _ rfl; (with_reducible repeat (first | refine blk_drewN ?_ _ | refine blk_drew ?_ | refine blk_alloc ?_ _)); exact BK476.out) hb); have n1_ := Aside0.mk (below_step (by repeat (first | (with_reducible first | exact HB.out | apply below_alloc | apply pw_below_drewN | apply below_drew1 | refine below_set ?_ GE476.out) | exact HB.out)) hb); clear BK476; clear HB; have BK476 := n0_; have HB := n1_; clear n0_ n1_; (try clear hb); (try clear hb2); (try clear hk); (try clear hi)))
          (try simp only [Act.put, List.setIfInBounds_toArray, List.set_cons_zero, List.set_cons_succ])
          go_cut [] (fun wc => ∃ (kq : Nat), Aside0 (testamurlaw03_SpansCovers.j2 kq l0 a3 (Int.tmod (wrap64 (a1)) 1025) (Int.tmod (wrap64 (a2)) 1025) t477 (Int.tmod (wrap64 (a1)) 1025) (Int.tmod (wrap64 (a2)) 1025) = some r) ∧ Aside0 (kq ≤ kj9) ∧ Aside0 (wc.heap[gb476]? = some (.cells #[.int .i64 (Int.tmod (wrap64 (a1)) 1025), .int .i64 (Int.tmod (wrap64 (a2)) 1025)] 31 (0, 0))) ∧ Aside0 (Below w.heap.size w wc))
          case first =>
            have H := HC13.out
            clear HC13
            by_cases c17 : (Int.tmod (wrap64 (a1)) 1025) ≥ (Int.tmod (wrap64 (a2)) 1025)
            · rw [if_pos c17] at H
              have c17b0 : decide ((Int.tmod (wrap64 (a2)) 1025) ≤ (Int.tmod (wrap64 (a1)) 1025)) = true := decide_eq_true c17
              clear c17
              (first | rw [c17b0] | (simp only [i64_w, i32_w]; rw [c17b0]) | skip)
              obtain rfl := Option.some.inj H
              go_wp2
              go_ret
              exact ⟨by first | rfl | (simp [errW_none, errW_some] <;> rfl) | (simp [*, errW_none, errW_some] <;> rfl), by repeat (first | (with_reducible first | exact HB.out | apply below_alloc | apply pw_below_drewN | apply below_drew1 | refine below_set ?_ GE476.out) | exact HB.out)⟩
            · rw [if_neg c17] at H
              have c17b0 : decide ((Int.tmod (wrap64 (a2)) 1025) ≤ (Int.tmod (wrap64 (a1)) 1025)) = false := decide_eq_false c17
              clear c17
              (first | rw [c17b0] | (simp only [i64_w, i32_w]; rw [c17b0]) | skip)
              have H' := Aside0.mk H
              clear H
              go_wp2
              go_meet
              case rel => exact ⟨_, H', ⟨by have := HJ5.out; have := HJ9.out; first | omega | exact Nat.le_refl _⟩, ⟨by (with_reducible repeat (first | refine blk_drewN ?_ _ | refine blk_drew ?_ | refine blk_alloc ?_ _)); exact BK476.out⟩, ⟨by repeat (first | (with_reducible first | exact HB.out | apply below_alloc | apply pw_below_drewN | apply below_drew1 | refine below_set ?_ GE476.out) | exact HB.out)⟩⟩
          case rest =>
            clear HC13
            try clear c1
            try clear c2
            try clear p2
            try clear p6
            try clear c8
            try clear c9
            try clear c10
            try clear c11
            try clear c17
            try clear c17b0
            try clear hcz15_0
            try clear hcz15_1
            try clear hfz15_0
            try clear hfz15_1
            try clear p2
            obtain ⟨kq, HA, HJ12, BK476, HB⟩ := hcut
            cases kq with
            | zero => exact absurd HA.out (by simp [testamurlaw03_SpansCovers.j2])
            | succ kj12 =>
              have H := HA.out
              clear HA
              simp only [testamurlaw03_SpansCovers.j2] at H
              by_cases c18 : (wrap64 ((wrap64 ((Int.tmod (wrap64 (a2)) 1025) - (Int.tmod (wrap64 (a1)) 1025))) + 1)) = 0
              · rw [if_pos c18] at H
                exact absurd H (by simp)
              · rw [if_neg c18] at H
                have c18b0 : ((wrap64 ((wrap64 ((Int.tmod (wrap64 (a2)) 1025) - (Int.tmod (wrap64 (a1)) 1025))) + 1)) == 0) = false := beq_eq_false_iff_ne.mpr c18
                have c18b1 : ((wrap64 ((wrap64 ((Int.tmod (wrap64 (a2)) 1025) - (Int.tmod (wrap64 (a1)) 1025))) + 1)) != 0) = true := bne_iff_ne.mpr c18
                obtain ⟨y478, hy478⟩ : ∃ y_ : List (S31), y_ = (([(⟨(Int.tmod (wrap64 (a1)) 1025), (Int.tmod (wrap64 (a2)) 1025)⟩ : S31)] : List (S31))) := ⟨_, rfl⟩
                replace H : ((spans_Minus.f y478 l0).bind fun t481 => (if (t477 == ((t481.length : Int) == 0)) = true then ((spans_Covers.f l0 (Int.tmod (wrap64 (a1)) 1025) (wrap64 ((Int.tmod (wrap64 (a1)) 1025) + (Int.tmod (wrap64 (a3)) (wrap64 ((wrap64 ((Int.tmod (wrap64 (a2)) 1025) - (Int.tmod (wrap64 (a1)) 1025))) + 1)))))).bind fun t484 => (if t484 = true then ((spans_Covers.f l0 (wrap64 ((Int.tmod (wrap64 (a1)) 1025) + (Int.tmod (wrap64 (a3)) (wrap64 ((wrap64 ((Int.tmod (wrap64 (a2)) 1025) - (Int.tmod (wrap64 (a1)) 1025))) + 1))))) (Int.tmod (wrap64 (a2)) 1025)).bind fun t485 => (if (t477 == t485) = true then ((spans_Covers.f l0 (Int.tmod (wrap64 (a1)) 1025) (wrap64 (1025 + (wrap64 (a3))))).bind fun t486 => (some (!t486))) else (none))) else (if (t477 == false) = true then ((spans_Covers.f l0 (Int.tmod (wrap64 (a1)) 1025) (wrap64 (1025 + (wrap64 (a3))))).bind fun t487 => (some (!t487))) else (none)))) else (none))) = some r := by first | (rw [hy478]; with_reducible exact H) | (have H2_ := (Option.bind_some _ _).symm.trans H; rw [hy478]; with_reducible exact H2_) | (have H2_ := (Option.bind_some _ _).symm.trans H; with_reducible exact H2_) | with_reducible exact H | (rw [hy478]; exact H) | exact H
                have Ny478 := Aside0.mk hy478
                clear hy478
                replace H := Option.bind_eq_some_iff.mp H
                obtain ⟨t481, A190, H⟩ := H
                replace H : (if (t477 == ((t481.length : Int) == 0)) = true then ((spans_Covers.f l0 (Int.tmod (wrap64 (a1)) 1025) (wrap64 ((Int.tmod (wrap64 (a1)) 1025) + (Int.tmod (wrap64 (a3)) (wrap64 ((wrap64 ((Int.tmod (wrap64 (a2)) 1025) - (Int.tmod (wrap64 (a1)) 1025))) + 1)))))).bind fun t484 => (if t484 = true then ((spans_Covers.f l0 (wrap64 ((Int.tmod (wrap64 (a1)) 1025) + (Int.tmod (wrap64 (a3)) (wrap64 ((wrap64 ((Int.tmod (wrap64 (a2)) 1025) - (Int.tmod (wrap64 (a1)) 1025))) + 1))))) (Int.tmod (wrap64 (a2)) 1025)).bind fun t485 => (if (t477 == t485) = true then ((spans_Covers.f l0 (Int.tmod (wrap64 (a1)) 1025) (wrap64 (1025 + (wrap64 (a3))))).bind fun t486 => (some (!t486))) else (none))) else (if (t477 == false) = true then ((spans_Covers.f l0 (Int.tmod (wrap64 (a1)) 1025) (wrap64 (1025 + (wrap64 (a3))))).bind fun t487 => (some (!t487))) else (none)))) else (none)) = some r := H
                have A19 := Aside0.mk A190
                clear A190
                by_cases c20 : (t477 == ((t481.length : Int) == 0)) = true
                · rw [if_pos c20] at H
                  have c20b0 : (t477 == ((t481.length : Int) == 0)) = true := c20
                  (try (have c20b1 : decide (t477 = ((t481.length : Int) == 0)) = true := by simpa using c20))
                  (try (have c20b2 : (t477 == ((t481.length : Int) == 0)) = true := by simpa using c20))
                  clear c20
                  replace H := Option.bind_eq_some_iff.mp H
                  obtain ⟨t484, A210, H⟩ := H
                  replace H : (if t484 = true then ((spans_Covers.f l0 (wrap64 ((Int.tmod (wrap64 (a1)) 1025) + (Int.tmod (wrap64 (a3)) (wrap64 ((wrap64 ((Int.tmod (wrap64 (a2)) 1025) - (Int.tmod (wrap64 (a1)) 1025))) + 1))))) (Int.tmod (wrap64 (a2)) 1025)).bind fun t485 => (if (t477 == t485) = true then ((spans_Covers.f l0 (Int.tmod (wrap64 (a1)) 1025) (wrap64 (1025 + (wrap64 (a3))))).bind fun t486 => (some (!t486))) else (none))) else (if (t477 == false) = true then ((spans_Covers.f l0 (Int.tmod (wrap64 (a1)) 1025) (wrap64 (1025 + (wrap64 (a3))))).bind fun t487 => (some (!t487))) else (none))) = some r := H
                  have A21 := Aside0.mk A210
                  clear A210
                  by_cases c22 : t484 = true
                  · subst c22
                    have H1 : ((spans_Covers.f l0 (wrap64 ((Int.tmod (wrap64 (a1)) 1025) + (Int.tmod (wrap64 (a3)) (wrap64 ((wrap64 ((Int.tmod (wrap64 (a2)) 1025) - (Int.tmod (wrap64 (a1)) 1025))) + 1))))) (Int.tmod (wrap64 (a2)) 1025)).bind fun t485 => (if (t477 == t485) = true then ((spans_Covers.f l0 (Int.tmod (wrap64 (a1)) 1025) (wrap64 (1025 + (wrap64 (a3))))).bind fun t486 => (some (!t486))) else (none))) = some r := by rw [if_pos rfl] at H; exact H
                    clear H
                    have H := H1
                    clear H1
                    replace H := Option.bind_eq_some_iff.mp H
                    obtain ⟨t485, A230, H⟩ := H
                    replace H : (if (t477 == t485) = true then ((spans_Covers.f l0 (Int.tmod (wrap64 (a1)) 1025) (wrap64 (1025 + (wrap64 (a3))))).bind fun t486 => (some (!t486))) else (none)) = some r := H
                    have A23 := Aside0.mk A230
                    clear A230
                    by_cases c24 : (t477 == t485) = true
                    · rw [if_pos c24] at H
                      have c24b0 : (t477 == t485) = true := c24
                      (try (have c24b1 : decide (t477 = t485) = true := by simpa using c24))
                      (try (have c24b2 : (t477 == t485) = true := by simpa using c24))
                      clear c24
                      replace H := Option.bind_eq_some_iff.mp H
                      obtain ⟨t486, A250, H⟩ := H
                      replace H : (some (!t486)) = some r := H
                      have A25 := Aside0.mk A250
                      clear A250
                      obtain rfl := Option.some.inj H
                      have hcz26_0 : wc.cell? ⟨gb476, 0, none⟩ = some (.int .i64 (Int.tmod (wrap64 (a1)) 1025)) := (blk_cell BK476.out 0).trans rfl
                      have hcz26_1 : wc.cell? ⟨gb476, 1, none⟩ = some (.int .i64 (Int.tmod (wrap64 (a2)) 1025)) := (blk_cell BK476.out 1).trans rfl
                      have hfz26_0 := blk_frozen BK476.out 0
                      have hfz26_1 := blk_frozen BK476.out 1
                      go_wp2_with ((with_reducible refine gate_dst (N := 46) rfl ?_); refine Aside0.out (p := _) ?_)
                      refine ⟨?_⟩
                      refine Kd.R_lit k31 _ 31 ?hg (N := 46) ?hd (xs := ([(⟨(Int.tmod (wrap64 (a1)) 1025), (Int.tmod (wrap64 (a2)) 1025)⟩ : S31)] : List (S31))) (inner := [.int .i64 (Int.tmod (wrap64 (a1)) 1025), .int .i64 (Int.tmod (wrap64 (a2)) 1025)]) (ok := fun _ => True) (okp := fun _ => True) ?hr ?hp (fun _ hk => hk) trivial (Below.refl _ _) (Nat.le_refl _) (by simp) ?_; (case hd => rfl); (case hg => rfl); (case hr => first | (go_simp; done) | (go_simp; rfl)); (case hp => exact (Reps.c2 (show Kd.M k31 _ _ _ (⟨(Int.tmod (wrap64 (a1)) 1025), (Int.tmod (wrap64 (a2)) 1025)⟩ : S31) [.int .i64 (Int.tmod (wrap64 (a1)) 1025), .int .i64 (Int.tmod (wrap64 (a2)) 1025)] from (k31_mkM _ _ _ (⟨(Int.tmod (wrap64 (a1)) 1025), (Int.tmod (wrap64 (a2)) 1025)⟩ : S31) )) (Reps.none _ _)))
                      intro v479 w27 ho28 hb hg_ hnew_
                      clear hg_ hnew_
                      (first | rw [← Ny478.out] at ho28 | (simp only [Int.reduceToNat] at ho28; rw [← Ny478.out] at ho28))
                      have n0_ := Aside0.mk (Kd.R_lower (Kd.R_newB ho28 (g := gb476) (o := .cells #[.int .i64 (Int.tmod (wrap64 (a1)) 1025), .int .i64 (Int.tmod (wrap64 (a2)) 1025)] 31 (0, 0)) (by (with_reducible repeat (first | refine blk_drewN ?_ _ | refine blk_drew ?_ | refine blk_alloc ?_ _)); exact BK476.out)) (below_size (by repeat (first | (with_reducible first | exact HB.out | apply below_alloc | apply pw_below_drewN | apply below_drew1 | refine below_set ?_ GE476.out) | exact HB.out))))
                      have n1_ := Aside0.mk (blk_below (g := gb476) (o := .cells #[.int .i64 (Int.tmod (wrap64 (a1)) 1025), .int .i64 (Int.tmod (wrap64 (a2)) 1025)] 31 (0, 0)) (by (with_reducible repeat (first | refine blk_drewN ?_ _ | refine blk_drew ?_ | refine blk_alloc ?_ _)); exact BK476.out) hb)
                      have n2_ := Aside0.mk (below_step (by repeat (first | (with_reducible first | exact HB.out | apply below_alloc | apply pw_below_drewN | apply below_drew1 | refine below_set ?_ GE476.out) | exact HB.out)) hb)
                      clear BK476
                      clear HB
                      have HO480 := n0_
                      have BK476 := n1_
                      have HB := n2_
                      clear n0_ n1_ n2_
                      clear hb ho28
                      obtain ⟨Ao29, co29, eo29⟩ := Kd.R_slice HO480.out
                      subst eo29
                      go_wp2_with ((with_reducible refine gate_callee (f := 21) rfl ?_); refine Aside0.out (p := _) ?_)
                      refine ⟨?_⟩
                      refine goesL_ (some 48) rfl rfl Try.func21 (by kernel_rfl) rfl #[.slice Ao29 y478.length co29, .slice A0 l0.length c0] rfl (by (try simp only [List.map_toArray, List.map_cons, List.map_nil]); first | done | rfl | (simp only [List.length_drop, List.length_take]; rfl)) ?_
                      (with_reducible refine (spans_Minus.calls _ _ y478 _ _ l0 t481 _ ?side1 ?side2 ?side3 ?side4 A19.out).mono ?_)
                      (case side1 => repeat (first | exact (Kd.R_reads' HO480.out).2.2 | (with_reducible refine Kd.C_alloc ?_ _) | (with_reducible refine Kd.C_drewN ?_ _) | (with_reducible refine Kd.C_drew ?_)))
                      (case side2 => exact (Kd.R_reads' HO480.out).2.1)
                      (case side3 => repeat (first | exact (Kd.C_below HR0.out HB.out) | (with_reducible refine Kd.C_alloc ?_ _) | (with_reducible refine Kd.C_drewN ?_ _) | (with_reducible refine Kd.C_drew ?_)))
                      (case side4 => exact HC0.out)
                      rintro e w30 ⟨v482, rfl, ho0, hb⟩
                      refine ⟨_, rfl, ?_⟩
                      have n1_ := Aside0.mk (Kd.R_lower (Kd.R_newB ho0 (g := gb476) (o := .cells #[.int .i64 (Int.tmod (wrap64 (a1)) 1025), .int .i64 (Int.tmod (wrap64 (a2)) 1025)] 31 (0, 0)) (by (with_reducible repeat (first | refine blk_drewN ?_ _ | refine blk_drew ?_ | refine blk_alloc ?_ _)); exact BK476.out)) (below_size (by repeat (first | (with_reducible first | exact HB.out | apply below_alloc | apply pw_below_drewN | apply below_drew1 | refine below_set ?_ GE476.out) | exact HB.out))))
                      have n2_ := Aside0.mk (blk_below (g := gb476) (o := .cells #[.int .i64 (Int.tmod (wrap64 (a1)) 1025), .int .i64 (Int.tmod (wrap64 (a2)) 1025)] 31 (0, 0)) (by (with_reducible repeat (first | refine blk_drewN ?_ _ | refine blk_drew ?_ | refine blk_alloc ?_ _)); exact BK476.out) hb)
                      have n3_ := Aside0.mk (below_step (by repeat (first | (with_reducible first | exact HB.out | apply below_alloc | apply pw_below_drewN | apply below_drew1 | refine below_set ?_ GE476.out) | exact HB.out)) hb)
                      clear HO480
                      clear BK476
                      clear HB
                      have HO483 := n1_
                      have BK476 := n2_
                      have HB := n3_
                      clear n1_ n2_ n3_
                      (try clear hb)
                      (try clear hb2)
                      (try clear hk)
                      (try clear hi)
                      (try clear ho0)
                      obtain ⟨Ao31, co31, eo31⟩ := Kd.R_slice HO483.out
                      subst eo31
                      go_wp2_with (go_at_call 25; (with_reducible refine (spans_Covers.calls _ _ l0 (Int.tmod (wrap64 (a1)) 1025) (wrap64 ((Int.tmod (wrap64 (a1)) 1025) + (Int.tmod (wrap64 (a3)) (wrap64 ((wrap64 ((Int.tmod (wrap64 (a2)) 1025) - (Int.tmod (wrap64 (a1)) 1025))) + 1))))) true _ ?side1 ?side2 A21.out).mono ?_); (case side1 => repeat (first | exact (Kd.C_below HR0.out HB.out) | (with_reducible refine Kd.C_alloc ?_ _) | (with_reducible refine Kd.C_drewN ?_ _) | (with_reducible refine Kd.C_drew ?_))); (case side2 => exact HC0.out); refine Aside0.out (p := _) ?_)
                      refine ⟨?_⟩
                      rintro e w32 ⟨rfl, hb⟩
                      have n2_ := Aside0.mk (blk_below (g := gb476) (o := .cells #[.int .i64 (Int.tmod (wrap64 (a1)) 1025), .int .i64 (Int.tmod (wrap64 (a2)) 1025)] 31 (0, 0)) (by (with_reducible repeat (first | refine blk_drewN ?_ _ | refine blk_drew ?_ | refine blk_alloc ?_ _)); exact BK476.out) hb)
                      have n3_ := Aside0.mk (below_step (by repeat (first | (with_reducible first | exact HB.out | apply below_alloc | apply pw_below_drewN | apply below_drew1 | refine below_set ?_ GE476.out) | exact HB.out)) hb)
                      clear HO483
                      clear BK476
                      clear HB
                      have BK476 := n2_
                      have HB := n3_
                      clear n2_ n3_
                      (try clear hb)
                      (try clear hb2)
                      (try clear hk)
                      (try clear hi)
                      go_wp2_with (go_at_call 25; (with_reducible refine (spans_Covers.calls _ _ l0 (wrap64 ((Int.tmod (wrap64 (a1)) 1025) + (Int.tmod (wrap64 (a3)) (wrap64 ((wrap64 ((Int.tmod (wrap64 (a2)) 1025) - (Int.tmod (wrap64 (a1)) 1025))) + 1))))) (Int.tmod (wrap64 (a2)) 1025) t485 _ ?side1 ?side2 A23.out).mono ?_); (case side1 => repeat (first | exact (Kd.C_below HR0.out HB.out) | (with_reducible refine Kd.C_alloc ?_ _) | (with_reducible refine Kd.C_drewN ?_ _) | (with_reducible refine Kd.C_drew ?_))); (case side2 => exact HC0.out); refine Aside0.out (p := _) ?_)
                      refine ⟨?_⟩
                      rintro e w33 ⟨rfl, hb⟩
                      have n2_ := Aside0.mk (blk_below (g := gb476) (o := .cells #[.int .i64 (Int.tmod (wrap64 (a1)) 1025), .int .i64 (Int.tmod (wrap64 (a2)) 1025)] 31 (0, 0)) (by (with_reducible repeat (first | refine blk_drewN ?_ _ | refine blk_drew ?_ | refine blk_alloc ?_ _)); exact BK476.out) hb)
                      have n3_ := Aside0.mk (below_step (by repeat (first | (with_reducible first | exact HB.out | apply below_alloc | apply pw_below_drewN | apply below_drew1 | refine below_set ?_ GE476.out) | exact HB.out)) hb)
                      clear BK476
                      clear HB
                      have BK476 := n2_
                      have HB := n3_
                      clear n2_ n3_
                      (try clear hb)
                      (try clear hb2)
                      (try clear hk)
                      (try clear hi)
                      go_wp2_with (go_at_call 25; (with_reducible refine (spans_Covers.calls _ _ l0 (Int.tmod (wrap64 (a1)) 1025) (wrap64 (1025 + (wrap64 (a3)))) t486 _ ?side1 ?side2 A25.out).mono ?_); (case side1 => repeat (first | exact (Kd.C_below HR0.out HB.out) | (with_reducible refine Kd.C_alloc ?_ _) | (with_reducible refine Kd.C_drewN ?_ _) | (with_reducible refine Kd.C_drew ?_))); (case side2 => exact HC0.out); refine Aside0.out (p := _) ?_)
                      refine ⟨?_⟩
                      rintro e w34 ⟨rfl, hb⟩
                      have n2_ := Aside0.mk (blk_below (g := gb476) (o := .cells #[.int .i64 (Int.tmod (wrap64 (a1)) 1025), .int .i64 (Int.tmod (wrap64 (a2)) 1025)] 31 (0, 0)) (by (with_reducible repeat (first | refine blk_drewN ?_ _ | refine blk_drew ?_ | refine blk_alloc ?_ _)); exact BK476.out) hb)
                      have n3_ := Aside0.mk (below_step (by repeat (first | (with_reducible first | exact HB.out | apply below_alloc | apply pw_below_drewN | apply below_drew1 | refine below_set ?_ GE476.out) | exact HB.out)) hb)
                      clear BK476
                      clear HB
                      have BK476 := n2_
                      have HB := n3_
                      clear n2_ n3_
                      (try clear hb)
                      (try clear hb2)
                      (try clear hk)
                      (try clear hi)
                      go_wp2
                      go_ret
                      exact ⟨by first | rfl | (simp [errW_none, errW_some] <;> rfl) | (simp [*, errW_none, errW_some] <;> rfl), by repeat (first | (with_reducible first | exact HB.out | apply below_alloc | apply pw_below_drewN | apply below_drew1 | refine below_set ?_ GE476.out) | exact HB.out)⟩
                    · rw [if_neg c24] at H
                      exact absurd H (by simp)
                  · replace c22 := Bool.eq_false_iff.mpr c22
                    subst c22
                    have H1 : (if (t477 == false) = true then ((spans_Covers.f l0 (Int.tmod (wrap64 (a1)) 1025) (wrap64 (1025 + (wrap64 (a3))))).bind fun t487 => (some (!t487))) else (none)) = some r := by rw [if_neg (show ¬ (false = true) by decide)] at H; exact H
                    clear H
                    have H := H1
                    clear H1
                    by_cases c35 : (t477 == false) = true
                    · rw [if_pos c35] at H
                      have c35b0 : (t477 == false) = true := c35
                      (try (have c35b1 : decide (t477 = false) = true := by simpa using c35))
                      (try (have c35b2 : (t477 == false) = true := by simpa using c35))
                      clear c35
                      replace H := Option.bind_eq_some_iff.mp H
                      obtain ⟨t487, A360, H⟩ := H
                      replace H : (some (!t487)) = some r := H
                      have A36 := Aside0.mk A360
                      clear A360
                      obtain rfl := Option.some.inj H
                      have hcz37_0 : wc.cell? ⟨gb476, 0, none⟩ = some (.int .i64 (Int.tmod (wrap64 (a1)) 1025)) := (blk_cell BK476.out 0).trans rfl
                      have hcz37_1 : wc.cell? ⟨gb476, 1, none⟩ = some (.int .i64 (Int.tmod (wrap64 (a2)) 1025)) := (blk_cell BK476.out 1).trans rfl
                      have hfz37_0 := blk_frozen BK476.out 0
                      have hfz37_1 := blk_frozen BK476.out 1
                      go_wp2_with ((with_reducible refine gate_dst (N := 46) rfl ?_); refine Aside0.out (p := _) ?_)
                      refine ⟨?_⟩
                      refine Kd.R_lit k31 _ 31 ?hg (N := 46) ?hd (xs := ([(⟨(Int.tmod (wrap64 (a1)) 1025), (Int.tmod (wrap64 (a2)) 1025)⟩ : S31)] : List (S31))) (inner := [.int .i64 (Int.tmod (wrap64 (a1)) 1025), .int .i64 (Int.tmod (wrap64 (a2)) 1025)]) (ok := fun _ => True) (okp := fun _ => True) ?hr ?hp (fun _ hk => hk) trivial (Below.refl _ _) (Nat.le_refl _) (by simp) ?_; (case hd => rfl); (case hg => rfl); (case hr => first | (go_simp; done) | (go_simp; rfl)); (case hp => exact (Reps.c2 (show Kd.M k31 _ _ _ (⟨(Int.tmod (wrap64 (a1)) 1025), (Int.tmod (wrap64 (a2)) 1025)⟩ : S31) [.int .i64 (Int.tmod (wrap64 (a1)) 1025), .int .i64 (Int.tmod (wrap64 (a2)) 1025)] from (k31_mkM _ _ _ (⟨(Int.tmod (wrap64 (a1)) 1025), (Int.tmod (wrap64 (a2)) 1025)⟩ : S31) )) (Reps.none _ _)))
                      intro v479 w38 ho39 hb hg_ hnew_
                      clear hg_ hnew_
                      (first | rw [← Ny478.out] at ho39 | (simp only [Int.reduceToNat] at ho39; rw [← Ny478.out] at ho39))
                      have n0_ := Aside0.mk (Kd.R_lower (Kd.R_newB ho39 (g := gb476) (o := .cells #[.int .i64 (Int.tmod (wrap64 (a1)) 1025), .int .i64 (Int.tmod (wrap64 (a2)) 1025)] 31 (0, 0)) (by (with_reducible repeat (first | refine blk_drewN ?_ _ | refine blk_drew ?_ | refine blk_alloc ?_ _)); exact BK476.out)) (below_size (by repeat (first | (with_reducible first | exact HB.out | apply below_alloc | apply pw_below_drewN | apply below_drew1 | refine below_set ?_ GE476.out) | exact HB.out))))
                      have n1_ := Aside0.mk (blk_below (g := gb476) (o := .cells #[.int .i64 (Int.tmod (wrap64 (a1)) 1025), .int .i64 (Int.tmod (wrap64 (a2)) 1025)] 31 (0, 0)) (by (with_reducible repeat (first | refine blk_drewN ?_ _ | refine blk_drew ?_ | refine blk_alloc ?_ _)); exact BK476.out) hb)
                      have n2_ := Aside0.mk (below_step (by repeat (first | (with_reducible first | exact HB.out | apply below_alloc | apply pw_below_drewN | apply below_drew1 | refine below_set ?_ GE476.out) | exact HB.out)) hb)
                      clear BK476
                      clear HB
                      have HO480 := n0_
                      have BK476 := n1_
                      have HB := n2_
                      clear n0_ n1_ n2_
                      clear hb ho39
                      obtain ⟨Ao40, co40, eo40⟩ := Kd.R_slice HO480.out
                      subst eo40
                      go_wp2_with ((with_reducible refine gate_callee (f := 21) rfl ?_); refine Aside0.out (p := _) ?_)
                      refine ⟨?_⟩
                      refine goesL_ (some 48) rfl rfl Try.func21 (by kernel_rfl) rfl #[.slice Ao40 y478.length co40, .slice A0 l0.length c0] rfl (by (try simp only [List.map_toArray, List.map_cons, List.map_nil]); first | done | rfl | (simp only [List.length_drop, List.length_take]; rfl)) ?_
                      (with_reducible refine (spans_Minus.calls _ _ y478 _ _ l0 t481 _ ?side1 ?side2 ?side3 ?side4 A19.out).mono ?_)
                      (case side1 => repeat (first | exact (Kd.R_reads' HO480.out).2.2 | (with_reducible refine Kd.C_alloc ?_ _) | (with_reducible refine Kd.C_drewN ?_ _) | (with_reducible refine Kd.C_drew ?_)))
                      (case side2 => exact (Kd.R_reads' HO480.out).2.1)
                      (case side3 => repeat (first | exact (Kd.C_below HR0.out HB.out) | (with_reducible refine Kd.C_alloc ?_ _) | (with_reducible refine Kd.C_drewN ?_ _) | (with_reducible refine Kd.C_drew ?_)))
                      (case side4 => exact HC0.out)
                      rintro e w41 ⟨v482, rfl, ho0, hb⟩
                      refine ⟨_, rfl, ?_⟩
                      have n1_ := Aside0.mk (Kd.R_lower (Kd.R_newB ho0 (g := gb476) (o := .cells #[.int .i64 (Int.tmod (wrap64 (a1)) 1025), .int .i64 (Int.tmod (wrap64 (a2)) 1025)] 31 (0, 0)) (by (with_reducible repeat (first | refine blk_drewN ?_ _ | refine blk_drew ?_ | refine blk_alloc ?_ _)); exact BK476.out)) (below_size (by repeat (first | (with_reducible first | exact HB.out | apply below_alloc | apply pw_below_drewN | apply below_drew1 | refine below_set ?_ GE476.out) | exact HB.out))))
                      have n2_ := Aside0.mk (blk_below (g := gb476) (o := .cells #[.int .i64 (Int.tmod (wrap64 (a1)) 1025), .int .i64 (Int.tmod (wrap64 (a2)) 1025)] 31 (0, 0)) (by (with_reducible repeat (first | refine blk_drewN ?_ _ | refine blk_drew ?_ | refine blk_alloc ?_ _)); exact BK476.out) hb)
                      have n3_ := Aside0.mk (below_step (by repeat (first | (with_reducible first | exact HB.out | apply below_alloc | apply pw_below_drewN | apply below_drew1 | refine below_set ?_ GE476.out) | exact HB.out)) hb)
                      clear HO480
                      clear BK476
                      clear HB
                      have HO483 := n1_
                      have BK476 := n2_
                      have HB := n3_
                      clear n1_ n2_ n3_
                      (try clear hb)
                      (try clear hb2)
                      (try clear hk)
                      (try clear hi)
                      (try clear ho0)
                      obtain ⟨Ao42, co42, eo42⟩ := Kd.R_slice HO483.out
                      subst eo42
                      go_wp2_with (go_at_call 25; (with_reducible refine (spans_Covers.calls _ _ l0 (Int.tmod (wrap64 (a1)) 1025) (wrap64 ((Int.tmod (wrap64 (a1)) 1025) + (Int.tmod (wrap64 (a3)) (wrap64 ((wrap64 ((Int.tmod (wrap64 (a2)) 1025) - (Int.tmod (wrap64 (a1)) 1025))) + 1))))) false _ ?side1 ?side2 A21.out).mono ?_); (case side1 => repeat (first | exact (Kd.C_below HR0.out HB.out) | (with_reducible refine Kd.C_alloc ?_ _) | (with_reducible refine Kd.C_drewN ?_ _) | (with_reducible refine Kd.C_drew ?_))); (case side2 => exact HC0.out); refine Aside0.out (p := _) ?_)
                      refine ⟨?_⟩
                      rintro e w43 ⟨rfl, hb⟩
                      have n2_ := Aside0.mk (blk_below (g := gb476) (o := .cells #[.int .i64 (Int.tmod (wrap64 (a1)) 1025), .int .i64 (Int.tmod (wrap64 (a2)) 1025)] 31 (0, 0)) (by (with_reducible repeat (first | refine blk_drewN ?_ _ | refine blk_drew ?_ | refine blk_alloc ?_ _)); exact BK476.out) hb)
                      have n3_ := Aside0.mk (below_step (by repeat (first | (with_reducible first | exact HB.out | apply below_alloc | apply pw_below_drewN | apply below_drew1 | refine below_set ?_ GE476.out) | exact HB.out)) hb)
                      clear HO483
                      clear BK476
                      clear HB
                      have BK476 := n2_
                      have HB := n3_
                      clear n2_ n3_
                      (try clear hb)
                      (try clear hb2)
                      (try clear hk)
                      (try clear hi)
                      go_wp2_with (go_at_call 25; (with_reducible refine (spans_Covers.calls _ _ l0 (Int.tmod (wrap64 (a1)) 1025) (wrap64 (1025 + (wrap64 (a3)))) t487 _ ?side1 ?side2 A36.out).mono ?_); (case side1 => repeat (first | exact (Kd.C_below HR0.out HB.out) | (with_reducible refine Kd.C_alloc ?_ _) | (with_reducible refine Kd.C_drewN ?_ _) | (with_reducible refine Kd.C_drew ?_))); (case side2 => exact HC0.out); refine Aside0.out (p := _) ?_)
                      refine ⟨?_⟩
                      rintro e w44 ⟨rfl, hb⟩
                      have n2_ := Aside0.mk (blk_below (g := gb476) (o := .cells #[.int .i64 (Int.tmod (wrap64 (a1)) 1025), .int .i64 (Int.tmod (wrap64 (a2)) 1025)] 31 (0, 0)) (by (with_reducible repeat (first | refine blk_drewN ?_ _ | refine blk_drew ?_ | refine blk_alloc ?_ _)); exact BK476.out) hb)
                      have n3_ := Aside0.mk (below_step (by repeat (first | (with_reducible first | exact HB.out | apply below_alloc | apply pw_below_drewN | apply below_drew1 | refine below_set ?_ GE476.out) | exact HB.out)) hb)
                      clear BK476
                      clear HB
                      have BK476 := n2_
                      have HB := n3_
                      clear n2_ n3_
                      (try clear hb)
                      (try clear hb2)
                      (try clear hk)
                      (try clear hi)
                      go_wp2
                      go_ret
                      exact ⟨by first | rfl | (simp [errW_none, errW_some] <;> rfl) | (simp [*, errW_none, errW_some] <;> rfl), by repeat (first | (with_reducible first | exact HB.out | apply below_alloc | apply pw_below_drewN | apply below_drew1 | refine below_set ?_ GE476.out) | exact HB.out)⟩
                    · rw [if_neg c35] at H
                      exact absurd H (by simp)
                · rw [if_neg c20] at H
                  exact absurd H (by simp)

end Go.Proofs.Ytcemfklhbgnflaa.P
