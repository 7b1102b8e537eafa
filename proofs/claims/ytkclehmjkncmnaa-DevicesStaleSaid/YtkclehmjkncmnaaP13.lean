-- printed by gprint.py (a program of this seat over the kit's print.py): Lean checks it
import Derived.Test.YtkclehmjkncmnaaP0
import Derived.Test.YtkclehmjkncmnaaPA
import Derived.Test.YtkclehmjkncmnaaH
namespace Go.Proofs.Ytkclehmjkncmnaa.P
open Go.RowKit Go.Proofs.YtkclehmjkncmnaaW.PrintWords Go.Proofs.YtkclehmjkncmnaaW.PrintLast Go.Proofs.YtkclehmjkncmnaaW.PrintMore
attribute [local go_sem] max2_int min2_int max_two min_two max_three min_three max_four min_four   -- for this text's walks alone
set_option linter.unusedVariables false
set_option linter.unusedSimpArgs false

attribute [local go_sem high] eqA40
/-! ### testamurref42_Has: function 37 -/
def testamurref42_Has.l0 : Nat → List (S40) → Int → Int → Int → Int → Int → Int → Int → Option (Bool)
 | 0, _, _, _, _, _, _, _, _ => none
 | k + 1, x0, x5, x205000, x205001, x205002, x205003, x205004, x205005 => if x5 < (x0.length : Int) then (if 0 ≤ x5 then (if (((rd_T40 x0 x5).f0) == x205000 && (((rd_T40 x0 x5).f1) == x205001 && (((rd_T40 x0 x5).f2) == x205002 && (((rd_T40 x0 x5).f3) == x205003 && (((rd_T40 x0 x5).f4) == x205004 && (((rd_T40 x0 x5).f5) == x205005)))))) = true then (some true) else (testamurref42_Has.l0 k x0 (wrap64 (x5 + 1)) x205000 x205001 x205002 x205003 x205004 x205005)) else (none)) else (some false)
def testamurref42_Has.f (k : Nat) (l0 : List (S40)) (a1_0 : Int) (a1_1 : Int) (a1_2 : Int) (a1_3 : Int) (a1_4 : Int) (a1_5 : Int) : Option (Bool) := testamurref42_Has.l0 k l0 0 a1_0 a1_1 a1_2 a1_3 a1_4 a1_5
theorem testamurref42_Has.mono_l : ∀ k, (∀ y0 y1 y2 y3 y4 y5 y6 y7, LeO (testamurref42_Has.l0 k y0 y1 y2 y3 y4 y5 y6 y7) (testamurref42_Has.l0 (k + 1) y0 y1 y2 y3 y4 y5 y6 y7))
 | 0 => fun _ _ _ _ _ _ _ _ r h => by simp [testamurref42_Has.l0] at h
 | k + 1 => by
  have ih0 := testamurref42_Has.mono_l k
  ·intro y0 y1 y2 y3 y4 y5 y6 y7
   unfold testamurref42_Has.l0
   repeat' first
   | (with_reducible exact ih0 _ _ _ _ _ _ _ _)
   | (with_reducible exact LeO.refl _)
   | (with_reducible exact LeO.none _)
   | (with_reducible refine LeO.ite ?_ ?_)
   | (with_reducible refine LeO.bind ?_ (fun _ => ?_))
   | exact ih0 _ _ _ _ _ _ _ _
   | exact LeO.none _
   | refine LeO.ite ?_ ?_
   | refine LeO.bind ?_ (fun _ => ?_)
theorem testamurref42_Has.mono : ∀ a0 a1 a2 a3 a4 a5 a6 k, LeO (testamurref42_Has.f k a0 a1 a2 a3 a4 a5 a6) (testamurref42_Has.f (k + 1) a0 a1 a2 a3 a4 a5 a6) := by
 intro a0 a1 a2 a3 a4 a5 a6 k
 have ih0 := testamurref42_Has.mono_l k
 unfold testamurref42_Has.f
 repeat' first
   | (with_reducible exact ih0 _ _ _ _ _ _ _ _)
   | (with_reducible exact LeO.refl _)
   | (with_reducible exact LeO.none _)
   | (with_reducible refine LeO.ite ?_ ?_)
   | (with_reducible refine LeO.bind ?_ (fun _ => ?_))
   | exact ih0 _ _ _ _ _ _ _ _
   | exact LeO.none _
   | refine LeO.ite ?_ ?_
   | refine LeO.bind ?_ (fun _ => ?_)
set_option maxHeartbeats 8000000 in
set_option maxRecDepth 100000 in
theorem testamurref42_Has.calls (k : Nat) (A0 : Option Addr) (c0 : Nat) (l0 : List (S40)) (a1_0 : Int) (a1_1 : Int) (a1_2 : Int) (a1_3 : Int) (a1_4 : Int) (a1_5 : Int) (r : Bool) (w : World) (hr0 : Kd.C k40 w A0 l0.length l0) (hc0 : l0.length ≤ c0) (h : testamurref42_Has.f k l0 a1_0 a1_1 a1_2 a1_3 a1_4 a1_5 = some r) :
  Calls Try.prog 37 #[.slice A0 l0.length c0, .agg #[.int .i64 a1_0, .int .i64 a1_1, .int .i64 a1_2, .int .i64 a1_3, .int .i64 a1_4, .int .i64 a1_5]] w fun e w' => e = .returned (.bool r) ∧ Below w.heap.size w w' := by
 have hu40 := Try.underlying40
 have HR0 := Aside0.mk hr0
 have HC0 := Aside0.mk hc0
 clear hr0 hc0
 have HB := Aside0.mk (Below.refl w.heap.size w)
 have H : (testamurref42_Has.l0 k l0 0 a1_0 a1_1 a1_2 a1_3 a1_4 a1_5) = some r := h
 clear h
 have H' := Aside0.mk H
 clear H
 go_enter Try.func37, Try.ntmps37
 go_wp2_with (first | ((with_reducible refine gate_dst (N := 3) rfl ?_); refine box_event ?hg (N := 3) ?hd (cs := #[.int .i64 a1_0, .int .i64 a1_1, .int .i64 a1_2, .int .i64 a1_3, .int .i64 a1_4, .int .i64 a1_5]) (t := 40) ?hr ?_; (case hd => rfl); (case hg => rfl); (case hr => first | (go_simp; done) | (go_simp; rfl)); intro gb204 hg w3 hbox hb; have n0_ := Aside0.mk (below_step (by repeat (first | (with_reducible first | exact HB.out | apply below_alloc | apply pw_below_drewN | apply below_drew1) | exact HB.out)) hb); have n1_ := Aside0.mk (hbox); have n2_ := Aside0.mk ((by rw [hg]; exact (below_size (by repeat (first | (with_reducible first | exact HB.out | apply below_alloc | apply pw_below_drewN | apply below_drew1) | exact HB.out))) : w.heap.size ≤ gb204)); have n3_ := Aside0.mk ((by rw [hg]; exact (below_size (by repeat (first | (with_reducible first | exact HB.out | apply below_alloc | apply pw_below_drewN | apply below_drew1) | exact HB.out))) : w.heap.size ≤ gb204)); clear HB; have HB := n0_; have BK204 := n1_; have GW204 := n2_; have GE204 := n3_; clear n0_ n1_ n2_ n3_; clear hb hbox hg))
 repeat (go_quiet (first | ((with_reducible refine gate_dst (N := 3) rfl ?_); refine box_event ?hg (N := 3) ?hd (cs := #[.int .i64 a1_0, .int .i64 a1_1, .int .i64 a1_2, .int .i64 a1_3, .int .i64 a1_4, .int .i64 a1_5]) (t := 40) ?hr ?_; (case hd => rfl); (case hg => rfl); (case hr => first | (go_simp; done) | (go_simp; rfl)); intro gb204 hg w3 hbox hb; have n0_ := Aside0.mk (below_step (by repeat (first | (with_reducible first | exact HB.out | apply below_alloc | apply pw_below_drewN | apply below_drew1) | exact HB.out)) hb); have n1_ := Aside0.mk (hbox); have n2_ := Aside0.mk ((by rw [hg]; exact (below_size (by repeat (first | (with_reducible first | exact HB.out | apply below_alloc | apply pw_below_drewN | apply below_drew1) | exact HB.out))) : w.heap.size ≤ gb204)); have n3_ := Aside0.mk ((by rw [hg]; exact (below_size (by repeat (first | (with_reducible first | exact HB.out | apply below_alloc | apply pw_below_drewN | apply below_drew1) | exact HB.out))) : w.heap.size ≤ gb204)); clear HB; have HB := n0_; have BK204 := n1_; have GW204 := n2_; have GE204 := n3_; clear n0_ n1_ n2_ n3_; clear hb hbox hg)); try go_wp2_with (first | ((with_reducible refine gate_dst (N := 3) rfl ?_); refine box_event ?hg (N := 3) ?hd (cs := #[.int .i64 a1_0, .int .i64 a1_1, .int .i64 a1_2, .int .i64 a1_3, .int .i64 a1_4, .int .i64 a1_5]) (t := 40) ?hr ?_; (case hd => rfl); (case hg => rfl); (case hr => first | (go_simp; done) | (go_simp; rfl)); intro gb204 hg w3 hbox hb; have n0_ := Aside0.mk (below_step (by repeat (first | (with_reducible first | exact HB.out | apply below_alloc | apply pw_below_drewN | apply below_drew1) | exact HB.out)) hb); have n1_ := Aside0.mk (hbox); have n2_ := Aside0.mk ((by rw [hg]; exact (below_size (by repeat (first | (with_reducible first | exact HB.out | apply below_alloc | apply pw_below_drewN | apply below_drew1) | exact HB.out))) : w.heap.size ≤ gb204)); have n3_ := Aside0.mk ((by rw [hg]; exact (below_size (by repeat (first | (with_reducible first | exact HB.out | apply below_alloc | apply pw_below_drewN | apply below_drew1) | exact HB.out))) : w.heap.size ≤ gb204)); clear HB; have HB := n0_; have BK204 := n1_; have GW204 := n2_; have GE204 := n3_; clear n0_ n1_ n2_ n3_; clear hb hbox hg)))
 go_loopg [5] k (fun kq v5 w' => ∃ (x5_1 : Int), v5 = .int .i64 x5_1 ∧ Aside0 (testamurref42_Has.l0 kq l0 x5_1 a1_0 a1_1 a1_2 a1_3 a1_4 a1_5 = some r) ∧ Aside0 (kq ≤ k) ∧ Aside0 (w'.heap[gb204]? = some (.cells #[.int .i64 a1_0, .int .i64 a1_1, .int .i64 a1_2, .int .i64 a1_3, .int .i64 a1_4, .int .i64 a1_5] 40 (0, 0))) ∧ Aside0 (Below w.heap.size w w'))
 case atStart => exact ⟨(0), (by first | rfl | (simp; done) | (simp [*]; done)), H', ⟨Nat.le_refl _⟩, ⟨by (with_reducible repeat (first | refine blk_drewN ?_ _ | refine blk_drew ?_ | refine blk_alloc ?_ _)); exact BK204.out⟩, ⟨by repeat (first | (with_reducible first | exact HB.out | apply below_alloc | apply pw_below_drewN | apply below_drew1 | refine below_set ?_ GE204.out) | exact HB.out)⟩⟩
 case round =>
  clear H'
  try clear p2
  try clear c3
  obtain ⟨x5_1, rfl, HA, HK1, BK204, HB⟩ := hrel
  cases gk with
  | zero => exact absurd HA.out (by simp [testamurref42_Has.l0])
  | succ k1 =>
   have H := HA.out
   clear HA
   simp only [testamurref42_Has.l0] at H
   by_cases c4 : x5_1 < (l0.length : Int)
   ·rw [if_pos c4] at H
    have c4b0 : decide (x5_1 < (l0.length : Int)) = true := decide_eq_true c4
    clear c4
    by_cases c5 : 0 ≤ x5_1
    ·rw [if_pos c5] at H
     have c5b0 : decide (0 ≤ x5_1) = true := decide_eq_true c5
     clear c5
     by_cases c6 : (((rd_T40 l0 x5_1).f0) == a1_0 && (((rd_T40 l0 x5_1).f1) == a1_1 && (((rd_T40 l0 x5_1).f2) == a1_2 && (((rd_T40 l0 x5_1).f3) == a1_3 && (((rd_T40 l0 x5_1).f4) == a1_4 && (((rd_T40 l0 x5_1).f5) == a1_5)))))) = true
     ·rw [if_pos c6] at H
      have c6b0 : (((rd_T40 l0 x5_1).f0) == a1_0 && (((rd_T40 l0 x5_1).f1) == a1_1 && (((rd_T40 l0 x5_1).f2) == a1_2 && (((rd_T40 l0 x5_1).f3) == a1_3 && (((rd_T40 l0 x5_1).f4) == a1_4 && (((rd_T40 l0 x5_1).f5) == a1_5)))))) = true := c6
      (try (have c6b1 : decide (((rd_T40 l0 x5_1).f0) = a1_0 && (((rd_T40 l0 x5_1).f1) == a1_1 && (((rd_T40 l0 x5_1).f2) == a1_2 && (((rd_T40 l0 x5_1).f3) == a1_3 && (((rd_T40 l0 x5_1).f4) == a1_4 && (((rd_T40 l0 x5_1).f5) == a1_5)))))) = true := by simpa using c6))
      (try (have c6b2 : (((rd_T40 l0 x5_1).f0) == a1_0 && (((rd_T40 l0 x5_1).f1) == a1_1 && (((rd_T40 l0 x5_1).f2) == a1_2 && (((rd_T40 l0 x5_1).f3) == a1_3 && (((rd_T40 l0 x5_1).f4) == a1_4 && (((rd_T40 l0 x5_1).f5) == a1_5)))))) = true := by simpa using c6))
      clear c6
      obtain rfl := Option.some.inj H
      have p205 : 0 ≤ (x5_1 : Int) := of_decide_eq_true (by first | (with_reducible assumption) | assumption)
      have q205 : x5_1 < (l0.length : Int) := of_decide_eq_true (by first | (with_reducible assumption) | assumption)
      obtain ⟨ad205, e205, hx205_0, hx205_1, hx205_2, hx205_3, hx205_4, hx205_5⟩ := at_T40 HR0.out x5_1 p205 q205
      cases e205
      replace hx205_0 := (HB.out.cell (World.block_lt_of_cell? w _ hx205_0)).trans hx205_0
      replace hx205_1 := (HB.out.cell (World.block_lt_of_cell? w _ hx205_1)).trans hx205_1
      replace hx205_2 := (HB.out.cell (World.block_lt_of_cell? w _ hx205_2)).trans hx205_2
      replace hx205_3 := (HB.out.cell (World.block_lt_of_cell? w _ hx205_3)).trans hx205_3
      replace hx205_4 := (HB.out.cell (World.block_lt_of_cell? w _ hx205_4)).trans hx205_4
      replace hx205_5 := (HB.out.cell (World.block_lt_of_cell? w _ hx205_5)).trans hx205_5
      replace p205 := eq_true p205
      replace q205 := eq_true q205
      have hcz7_0 : wr.cell? ⟨gb204, 0, none⟩ = some (.int .i64 a1_0) := (blk_cell BK204.out 0).trans rfl
      have hcz7_1 : wr.cell? ⟨gb204, 1, none⟩ = some (.int .i64 a1_1) := (blk_cell BK204.out 1).trans rfl
      have hcz7_2 : wr.cell? ⟨gb204, 2, none⟩ = some (.int .i64 a1_2) := (blk_cell BK204.out 2).trans rfl
      have hcz7_3 : wr.cell? ⟨gb204, 3, none⟩ = some (.int .i64 a1_3) := (blk_cell BK204.out 3).trans rfl
      have hcz7_4 : wr.cell? ⟨gb204, 4, none⟩ = some (.int .i64 a1_4) := (blk_cell BK204.out 4).trans rfl
      have hcz7_5 : wr.cell? ⟨gb204, 5, none⟩ = some (.int .i64 a1_5) := (blk_cell BK204.out 5).trans rfl
      have hfz7_0 := blk_frozen BK204.out 0
      have hfz7_1 := blk_frozen BK204.out 1
      have hfz7_2 := blk_frozen BK204.out 2
      have hfz7_3 := blk_frozen BK204.out 3
      have hfz7_4 := blk_frozen BK204.out 4
      have hfz7_5 := blk_frozen BK204.out 5
      go_wp2
      repeat (go_quiet (fail); try go_wp2)
      go_ret
      exact ⟨by first | rfl | (simp [errW_none, errW_some] <;> rfl) | (simp [*, errW_none, errW_some] <;> rfl), by repeat (first | (with_reducible first | exact HB.out | apply below_alloc | apply pw_below_drewN | apply below_drew1 | refine below_set ?_ GE204.out) | exact HB.out)⟩
     ·rw [if_neg c6] at H
      have c6b0 : (((rd_T40 l0 x5_1).f0) == a1_0 && (((rd_T40 l0 x5_1).f1) == a1_1 && (((rd_T40 l0 x5_1).f2) == a1_2 && (((rd_T40 l0 x5_1).f3) == a1_3 && (((rd_T40 l0 x5_1).f4) == a1_4 && (((rd_T40 l0 x5_1).f5) == a1_5)))))) = false := by simpa using c6
      (try (have c6b1 : decide (((rd_T40 l0 x5_1).f0) = a1_0 && (((rd_T40 l0 x5_1).f1) == a1_1 && (((rd_T40 l0 x5_1).f2) == a1_2 && (((rd_T40 l0 x5_1).f3) == a1_3 && (((rd_T40 l0 x5_1).f4) == a1_4 && (((rd_T40 l0 x5_1).f5) == a1_5)))))) = false := by simpa using c6))
      (try (have c6b2 : (((rd_T40 l0 x5_1).f0) == a1_0 && (((rd_T40 l0 x5_1).f1) == a1_1 && (((rd_T40 l0 x5_1).f2) == a1_2 && (((rd_T40 l0 x5_1).f3) == a1_3 && (((rd_T40 l0 x5_1).f4) == a1_4 && (((rd_T40 l0 x5_1).f5) == a1_5)))))) = false := by simpa using c6))
      (try (have c6b3 : ¬ (((rd_T40 l0 x5_1).f0) = a1_0 && (((rd_T40 l0 x5_1).f1) == a1_1 && (((rd_T40 l0 x5_1).f2) == a1_2 && (((rd_T40 l0 x5_1).f3) == a1_3 && (((rd_T40 l0 x5_1).f4) == a1_4 && (((rd_T40 l0 x5_1).f5) == a1_5)))))) := by simpa using c6))
      clear c6
      have H' := Aside0.mk H
      clear H
      have p205 : 0 ≤ (x5_1 : Int) := of_decide_eq_true (by first | (with_reducible assumption) | assumption)
      have q205 : x5_1 < (l0.length : Int) := of_decide_eq_true (by first | (with_reducible assumption) | assumption)
      obtain ⟨ad205, e205, hx205_0, hx205_1, hx205_2, hx205_3, hx205_4, hx205_5⟩ := at_T40 HR0.out x5_1 p205 q205
      cases e205
      replace hx205_0 := (HB.out.cell (World.block_lt_of_cell? w _ hx205_0)).trans hx205_0
      replace hx205_1 := (HB.out.cell (World.block_lt_of_cell? w _ hx205_1)).trans hx205_1
      replace hx205_2 := (HB.out.cell (World.block_lt_of_cell? w _ hx205_2)).trans hx205_2
      replace hx205_3 := (HB.out.cell (World.block_lt_of_cell? w _ hx205_3)).trans hx205_3
      replace hx205_4 := (HB.out.cell (World.block_lt_of_cell? w _ hx205_4)).trans hx205_4
      replace hx205_5 := (HB.out.cell (World.block_lt_of_cell? w _ hx205_5)).trans hx205_5
      replace p205 := eq_true p205
      replace q205 := eq_true q205
      have hcz8_0 : wr.cell? ⟨gb204, 0, none⟩ = some (.int .i64 a1_0) := (blk_cell BK204.out 0).trans rfl
      have hcz8_1 : wr.cell? ⟨gb204, 1, none⟩ = some (.int .i64 a1_1) := (blk_cell BK204.out 1).trans rfl
      have hcz8_2 : wr.cell? ⟨gb204, 2, none⟩ = some (.int .i64 a1_2) := (blk_cell BK204.out 2).trans rfl
      have hcz8_3 : wr.cell? ⟨gb204, 3, none⟩ = some (.int .i64 a1_3) := (blk_cell BK204.out 3).trans rfl
      have hcz8_4 : wr.cell? ⟨gb204, 4, none⟩ = some (.int .i64 a1_4) := (blk_cell BK204.out 4).trans rfl
      have hcz8_5 : wr.cell? ⟨gb204, 5, none⟩ = some (.int .i64 a1_5) := (blk_cell BK204.out 5).trans rfl
      have hfz8_0 := blk_frozen BK204.out 0
      have hfz8_1 := blk_frozen BK204.out 1
      have hfz8_2 := blk_frozen BK204.out 2
      have hfz8_3 := blk_frozen BK204.out 3
      have hfz8_4 := blk_frozen BK204.out 4
      have hfz8_5 := blk_frozen BK204.out 5
      go_wp2
      repeat (go_quiet (fail); try go_wp2)
      go_roundg k1
      case measure => have := HK1.out; omega
      case rel => exact ⟨(wrap64 (x5_1 + 1)), (by first | rfl | (simp; done) | (simp [*]; done)), H', ⟨by have := HK1.out; omega⟩, ⟨by (with_reducible repeat (first | refine blk_drewN ?_ _ | refine blk_drew ?_ | refine blk_alloc ?_ _)); exact BK204.out⟩, ⟨by repeat (first | (with_reducible first | exact HB.out | apply below_alloc | apply pw_below_drewN | apply below_drew1 | refine below_set ?_ GE204.out) | exact HB.out)⟩⟩
    ·rw [if_neg c5] at H
     exact absurd H (by simp)
   ·rw [if_neg c4] at H
    have c4b0 : decide (x5_1 < (l0.length : Int)) = false := decide_eq_false c4
    clear c4
    obtain rfl := Option.some.inj H
    go_wp2
    repeat (go_quiet (fail); try go_wp2)
    go_ret
    exact ⟨by first | rfl | (simp [errW_none, errW_some] <;> rfl) | (simp [*, errW_none, errW_some] <;> rfl), by repeat (first | (with_reducible first | exact HB.out | apply below_alloc | apply pw_below_drewN | apply below_drew1 | refine below_set ?_ GE204.out) | exact HB.out)⟩

end Go.Proofs.Ytkclehmjkncmnaa.P
