-- printed by gprint.py (a program of this seat over the kit's print.py): Lean checks it
import Derived.Test.YtkclehmjkncmnaaP0
import Derived.Test.YtkclehmjkncmnaaH
namespace Go.Proofs.Ytkclehmjkncmnaa.P
open Go.RowKit Go.Proofs.YtkclehmjkncmnaaW.PrintWords Go.Proofs.YtkclehmjkncmnaaW.PrintLast Go.Proofs.YtkclehmjkncmnaaW.PrintMore
attribute [local go_sem] max2_int min2_int max_two min_two max_three min_three max_four min_four   -- for this text's walks alone
set_option linter.unusedVariables false
set_option linter.unusedSimpArgs false

/-! ### testamurlaw42_had: function 38 -/
def testamurlaw42_had.l0 : Nat → Int → Int → List (S40) → Int → Int → Option (Bool)
 | 0, _, _, _, _, _ => none
 | k + 1, x1, x3, x14, x15, x16 => if x16 < x15 then (if 0 ≤ x16 then (if x16 < (x14.length : Int) then (if ((rd_T40 x14 x16).f3) = x1 then (if ((rd_T40 x14 x16).f0) = x3 then (some true) else (if ((rd_T40 x14 x16).f2) = 1 then (if ((rd_T40 x14 x16).f4) = x3 then (some true) else (testamurlaw42_had.l0 k x1 x3 x14 x15 (wrap64 (x16 + 1)))) else (testamurlaw42_had.l0 k x1 x3 x14 x15 (wrap64 (x16 + 1))))) else (testamurlaw42_had.l0 k x1 x3 x14 x15 (wrap64 (x16 + 1)))) else (none)) else (none)) else (some false)
def testamurlaw42_had.f (k : Nat) (l0 : List (S40)) (a1 : Int) (a2 : Int) (a3 : Int) : Option (Bool) := if a3 = a2 then (some true) else (testamurlaw42_had.l0 k a1 a3 l0 (l0.length : Int) 0)
theorem testamurlaw42_had.mono_l : ∀ k, (∀ y0 y1 y2 y3 y4, LeO (testamurlaw42_had.l0 k y0 y1 y2 y3 y4) (testamurlaw42_had.l0 (k + 1) y0 y1 y2 y3 y4))
 | 0 => fun _ _ _ _ _ r h => by simp [testamurlaw42_had.l0] at h
 | k + 1 => by
  have ih0 := testamurlaw42_had.mono_l k
  ·intro y0 y1 y2 y3 y4
   unfold testamurlaw42_had.l0
   repeat' first
   | (with_reducible exact ih0 _ _ _ _ _)
   | (with_reducible exact LeO.refl _)
   | (with_reducible exact LeO.none _)
   | (with_reducible refine LeO.ite ?_ ?_)
   | (with_reducible refine LeO.bind ?_ (fun _ => ?_))
   | exact ih0 _ _ _ _ _
   | exact LeO.none _
   | refine LeO.ite ?_ ?_
   | refine LeO.bind ?_ (fun _ => ?_)
theorem testamurlaw42_had.mono : ∀ a0 a1 a2 a3 k, LeO (testamurlaw42_had.f k a0 a1 a2 a3) (testamurlaw42_had.f (k + 1) a0 a1 a2 a3) := by
 intro a0 a1 a2 a3 k
 have ih0 := testamurlaw42_had.mono_l k
 unfold testamurlaw42_had.f
 repeat' first
   | (with_reducible exact ih0 _ _ _ _ _)
   | (with_reducible exact LeO.refl _)
   | (with_reducible exact LeO.none _)
   | (with_reducible refine LeO.ite ?_ ?_)
   | (with_reducible refine LeO.bind ?_ (fun _ => ?_))
   | exact ih0 _ _ _ _ _
   | exact LeO.none _
   | refine LeO.ite ?_ ?_
   | refine LeO.bind ?_ (fun _ => ?_)
set_option maxHeartbeats 8000000 in
set_option maxRecDepth 100000 in
theorem testamurlaw42_had.calls (k : Nat) (A0 : Option Addr) (c0 : Nat) (l0 : List (S40)) (a1 : Int) (a2 : Int) (a3 : Int) (r : Bool) (w : World) (hr0 : Kd.C k40 w A0 l0.length l0) (hc0 : l0.length ≤ c0) (h : testamurlaw42_had.f k l0 a1 a2 a3 = some r) :
  Calls Try.prog 38 #[.slice A0 l0.length c0, .int .i64 a1, .int .i64 a2, .int .i64 a3] w fun e w' => e = .returned (.bool r) ∧ Below w.heap.size w w' := by
 have hu40 := Try.underlying40
 have HR0 := Aside0.mk hr0
 have HC0 := Aside0.mk hc0
 clear hr0 hc0
 have HB := Aside0.mk (Below.refl w.heap.size w)
 have H : (if a3 = a2 then (some true) else (testamurlaw42_had.l0 k a1 a3 l0 (l0.length : Int) 0)) = some r := h
 clear h
 by_cases c5 : a3 = a2
 ·rw [if_pos c5] at H
  have c5b0 : (a3 == a2) = true := beq_iff_eq.mpr c5
  have c5b1 : (a3 != a2) = false := bne_eq_false_iff_eq.mpr c5
  clear c5
  obtain rfl := Option.some.inj H
  go_enter Try.func38, Try.ntmps38
  go_wp2
  go_ret
  exact ⟨by first | rfl | (simp [errW_none, errW_some] <;> rfl) | (simp [*, errW_none, errW_some] <;> rfl), by repeat (first | (with_reducible first | exact HB.out | apply below_alloc | apply pw_below_drewN | apply below_drew1) | exact HB.out)⟩
 ·rw [if_neg c5] at H
  have c5b0 : (a3 == a2) = false := beq_eq_false_iff_ne.mpr c5
  have c5b1 : (a3 != a2) = true := bne_iff_ne.mpr c5
  have H' := Aside0.mk H
  clear H
  go_enter Try.func38, Try.ntmps38
  go_wp2
  go_loopg [16] k (fun kq v16 w' => ∃ (x16_1 : Int), v16 = .int .i64 x16_1 ∧ Aside0 (testamurlaw42_had.l0 kq a1 a3 l0 (l0.length : Int) x16_1 = some r) ∧ Aside0 (kq ≤ k) ∧ Aside0 (Below w.heap.size w w'))
  case atStart => exact ⟨(0), (by first | rfl | (simp; done) | (simp [*]; done)), H', ⟨Nat.le_refl _⟩, ⟨by repeat (first | (with_reducible first | exact HB.out | apply below_alloc | apply pw_below_drewN | apply below_drew1) | exact HB.out)⟩⟩
  case round =>
   clear H'
   try clear p2
   try clear c3
   try clear c5
   try clear c5b0
   try clear c5b1
   obtain ⟨x16_1, rfl, HA, HK1, HB⟩ := hrel
   cases gk with
   | zero => exact absurd HA.out (by simp [testamurlaw42_had.l0])
   | succ k1 =>
    have H := HA.out
    clear HA
    simp only [testamurlaw42_had.l0] at H
    by_cases c6 : x16_1 < (l0.length : Int)
    ·rw [if_pos c6] at H
     have c6b0 : decide (x16_1 < (l0.length : Int)) = true := decide_eq_true c6
     clear c6
     by_cases c7 : 0 ≤ x16_1
     ·rw [if_pos c7] at H
      have c7b0 : decide (0 ≤ x16_1) = true := decide_eq_true c7
      clear c7
      by_cases c8 : x16_1 < (l0.length : Int)
      ·rw [if_pos c8] at H
       have c8b0 : decide (x16_1 < (l0.length : Int)) = true := decide_eq_true c8
       clear c8
       by_cases c9 : ((rd_T40 l0 x16_1).f3) = a1
       ·rw [if_pos c9] at H
        have c9b0 : (((rd_T40 l0 x16_1).f3) == a1) = true := beq_iff_eq.mpr c9
        have c9b1 : (((rd_T40 l0 x16_1).f3) != a1) = false := bne_eq_false_iff_eq.mpr c9
        clear c9
        by_cases c10 : ((rd_T40 l0 x16_1).f0) = a3
        ·rw [if_pos c10] at H
         have c10b0 : (((rd_T40 l0 x16_1).f0) == a3) = true := beq_iff_eq.mpr c10
         have c10b1 : (((rd_T40 l0 x16_1).f0) != a3) = false := bne_eq_false_iff_eq.mpr c10
         clear c10
         obtain rfl := Option.some.inj H
         have p482 : 0 ≤ (x16_1 : Int) := of_decide_eq_true (by first | (with_reducible assumption) | assumption)
         have q482 : x16_1 < (l0.length : Int) := of_decide_eq_true (by first | (with_reducible assumption) | assumption)
         obtain ⟨ad482, e482, hx482_0, hx482_1, hx482_2, hx482_3, hx482_4, hx482_5⟩ := at_T40 HR0.out x16_1 p482 q482
         cases e482
         replace hx482_0 := (HB.out.cell (World.block_lt_of_cell? w _ hx482_0)).trans hx482_0
         replace hx482_1 := (HB.out.cell (World.block_lt_of_cell? w _ hx482_1)).trans hx482_1
         replace hx482_2 := (HB.out.cell (World.block_lt_of_cell? w _ hx482_2)).trans hx482_2
         replace hx482_3 := (HB.out.cell (World.block_lt_of_cell? w _ hx482_3)).trans hx482_3
         replace hx482_4 := (HB.out.cell (World.block_lt_of_cell? w _ hx482_4)).trans hx482_4
         replace hx482_5 := (HB.out.cell (World.block_lt_of_cell? w _ hx482_5)).trans hx482_5
         replace p482 := eq_true p482
         replace q482 := eq_true q482
         go_wp2_with (first | ((with_reducible refine gate_dst (N := 10) rfl ?_); refine box_event ?hg (N := 10) ?hd (cs := #[.int .i64 0, .int .i64 0, .int .i64 0, .int .i64 0, .int .i64 0, .int .i64 0]) (t := 40) ?hr ?_; (case hd => rfl); (case hg => rfl); (case hr => first | (go_simp; done) | (go_simp; rfl)); intro gb483 hg w11 hbox hb; have n0_ := Aside0.mk (below_step (by repeat (first | (with_reducible first | exact HB.out | apply below_alloc | apply pw_below_drewN | apply below_drew1) | exact HB.out)) hb); have n1_ := Aside0.mk (hbox); have n2_ := Aside0.mk ((by rw [hg]; exact (below_size (by repeat (first | (with_reducible first | exact HB.out | apply below_alloc | apply pw_below_drewN | apply below_drew1) | exact HB.out))) : w.heap.size ≤ gb483)); have n3_ := Aside0.mk ((by rw [hg]; exact (below_size (by repeat (first | (with_reducible first | exact HB.out | apply below_alloc | apply pw_below_drewN | apply below_drew1) | exact HB.out))) : w.heap.size ≤ gb483)); clear HB; have HB := n0_; have BK483 := n1_; have GW483 := n2_; have GE483 := n3_; clear n0_ n1_ n2_ n3_; clear hb hbox hg; have hcz12_0 : w11.cell? ⟨gb483, 0, none⟩ = some (.int .i64 0) := (blk_cell BK483.out 0).trans rfl; have hcz12_1 : w11.cell? ⟨gb483, 1, none⟩ = some (.int .i64 0) := (blk_cell BK483.out 1).trans rfl; have hcz12_2 : w11.cell? ⟨gb483, 2, none⟩ = some (.int .i64 0) := (blk_cell BK483.out 2).trans rfl; have hcz12_3 : w11.cell? ⟨gb483, 3, none⟩ = some (.int .i64 0) := (blk_cell BK483.out 3).trans rfl; have hcz12_4 : w11.cell? ⟨gb483, 4, none⟩ = some (.int .i64 0) := (blk_cell BK483.out 4).trans rfl; have hcz12_5 : w11.cell? ⟨gb483, 5, none⟩ = some (.int .i64 0) := (blk_cell BK483.out 5).trans rfl; have hfz12_0 := blk_frozen BK483.out 0; have hfz12_1 := blk_frozen BK483.out 1; have hfz12_2 := blk_frozen BK483.out 2; have hfz12_3 := blk_frozen BK483.out 3; have hfz12_4 := blk_frozen BK483.out 4; have hfz12_5 := blk_frozen BK483.out 5))
         go_ret
         exact ⟨by first | rfl | (simp [errW_none, errW_some] <;> rfl) | (simp [*, errW_none, errW_some] <;> rfl), by repeat (first | (with_reducible first | exact HB.out | apply below_alloc | apply pw_below_drewN | apply below_drew1 | refine below_set ?_ GE483.out) | exact HB.out)⟩
        ·rw [if_neg c10] at H
         have c10b0 : (((rd_T40 l0 x16_1).f0) == a3) = false := beq_eq_false_iff_ne.mpr c10
         have c10b1 : (((rd_T40 l0 x16_1).f0) != a3) = true := bne_iff_ne.mpr c10
         by_cases c13 : ((rd_T40 l0 x16_1).f2) = 1
         ·rw [if_pos c13] at H
          have c13b0 : (((rd_T40 l0 x16_1).f2) == 1) = true := beq_iff_eq.mpr c13
          have c13b1 : (((rd_T40 l0 x16_1).f2) != 1) = false := bne_eq_false_iff_eq.mpr c13
          clear c13
          by_cases c14 : ((rd_T40 l0 x16_1).f4) = a3
          ·rw [if_pos c14] at H
           have c14b0 : (((rd_T40 l0 x16_1).f4) == a3) = true := beq_iff_eq.mpr c14
           have c14b1 : (((rd_T40 l0 x16_1).f4) != a3) = false := bne_eq_false_iff_eq.mpr c14
           clear c14
           obtain rfl := Option.some.inj H
           have p482 : 0 ≤ (x16_1 : Int) := of_decide_eq_true (by first | (with_reducible assumption) | assumption)
           have q482 : x16_1 < (l0.length : Int) := of_decide_eq_true (by first | (with_reducible assumption) | assumption)
           obtain ⟨ad482, e482, hx482_0, hx482_1, hx482_2, hx482_3, hx482_4, hx482_5⟩ := at_T40 HR0.out x16_1 p482 q482
           cases e482
           replace hx482_0 := (HB.out.cell (World.block_lt_of_cell? w _ hx482_0)).trans hx482_0
           replace hx482_1 := (HB.out.cell (World.block_lt_of_cell? w _ hx482_1)).trans hx482_1
           replace hx482_2 := (HB.out.cell (World.block_lt_of_cell? w _ hx482_2)).trans hx482_2
           replace hx482_3 := (HB.out.cell (World.block_lt_of_cell? w _ hx482_3)).trans hx482_3
           replace hx482_4 := (HB.out.cell (World.block_lt_of_cell? w _ hx482_4)).trans hx482_4
           replace hx482_5 := (HB.out.cell (World.block_lt_of_cell? w _ hx482_5)).trans hx482_5
           replace p482 := eq_true p482
           replace q482 := eq_true q482
           go_wp2_with (first | ((with_reducible refine gate_dst (N := 10) rfl ?_); refine box_event ?hg (N := 10) ?hd (cs := #[.int .i64 0, .int .i64 0, .int .i64 0, .int .i64 0, .int .i64 0, .int .i64 0]) (t := 40) ?hr ?_; (case hd => rfl); (case hg => rfl); (case hr => first | (go_simp; done) | (go_simp; rfl)); intro gb483 hg w15 hbox hb; have n0_ := Aside0.mk (below_step (by repeat (first | (with_reducible first | exact HB.out | apply below_alloc | apply pw_below_drewN | apply below_drew1) | exact HB.out)) hb); have n1_ := Aside0.mk (hbox); have n2_ := Aside0.mk ((by rw [hg]; exact (below_size (by repeat (first | (with_reducible first | exact HB.out | apply below_alloc | apply pw_below_drewN | apply below_drew1) | exact HB.out))) : w.heap.size ≤ gb483)); have n3_ := Aside0.mk ((by rw [hg]; exact (below_size (by repeat (first | (with_reducible first | exact HB.out | apply below_alloc | apply pw_below_drewN | apply below_drew1) | exact HB.out))) : w.heap.size ≤ gb483)); clear HB; have HB := n0_; have BK483 := n1_; have GW483 := n2_; have GE483 := n3_; clear n0_ n1_ n2_ n3_; clear hb hbox hg; have hcz16_0 : w15.cell? ⟨gb483, 0, none⟩ = some (.int .i64 0) := (blk_cell BK483.out 0).trans rfl; have hcz16_1 : w15.cell? ⟨gb483, 1, none⟩ = some (.int .i64 0) := (blk_cell BK483.out 1).trans rfl; have hcz16_2 : w15.cell? ⟨gb483, 2, none⟩ = some (.int .i64 0) := (blk_cell BK483.out 2).trans rfl; have hcz16_3 : w15.cell? ⟨gb483, 3, none⟩ = some (.int .i64 0) := (blk_cell BK483.out 3).trans rfl; have hcz16_4 : w15.cell? ⟨gb483, 4, none⟩ = some (.int .i64 0) := (blk_cell BK483.out 4).trans rfl; have hcz16_5 : w15.cell? ⟨gb483, 5, none⟩ = some (.int .i64 0) := (blk_cell BK483.out 5).trans rfl; have hfz16_0 := blk_frozen BK483.out 0; have hfz16_1 := blk_frozen BK483.out 1; have hfz16_2 := blk_frozen BK483.out 2; have hfz16_3 := blk_frozen BK483.out 3; have hfz16_4 := blk_frozen BK483.out 4; have hfz16_5 := blk_frozen BK483.out 5))
           go_ret
           exact ⟨by first | rfl | (simp [errW_none, errW_some] <;> rfl) | (simp [*, errW_none, errW_some] <;> rfl), by repeat (first | (with_reducible first | exact HB.out | apply below_alloc | apply pw_below_drewN | apply below_drew1 | refine below_set ?_ GE483.out) | exact HB.out)⟩
          ·rw [if_neg c14] at H
           have c14b0 : (((rd_T40 l0 x16_1).f4) == a3) = false := beq_eq_false_iff_ne.mpr c14
           have c14b1 : (((rd_T40 l0 x16_1).f4) != a3) = true := bne_iff_ne.mpr c14
           have H' := Aside0.mk H
           clear H
           have p482 : 0 ≤ (x16_1 : Int) := of_decide_eq_true (by first | (with_reducible assumption) | assumption)
           have q482 : x16_1 < (l0.length : Int) := of_decide_eq_true (by first | (with_reducible assumption) | assumption)
           obtain ⟨ad482, e482, hx482_0, hx482_1, hx482_2, hx482_3, hx482_4, hx482_5⟩ := at_T40 HR0.out x16_1 p482 q482
           cases e482
           replace hx482_0 := (HB.out.cell (World.block_lt_of_cell? w _ hx482_0)).trans hx482_0
           replace hx482_1 := (HB.out.cell (World.block_lt_of_cell? w _ hx482_1)).trans hx482_1
           replace hx482_2 := (HB.out.cell (World.block_lt_of_cell? w _ hx482_2)).trans hx482_2
           replace hx482_3 := (HB.out.cell (World.block_lt_of_cell? w _ hx482_3)).trans hx482_3
           replace hx482_4 := (HB.out.cell (World.block_lt_of_cell? w _ hx482_4)).trans hx482_4
           replace hx482_5 := (HB.out.cell (World.block_lt_of_cell? w _ hx482_5)).trans hx482_5
           replace p482 := eq_true p482
           replace q482 := eq_true q482
           go_wp2_with (first | ((with_reducible refine gate_dst (N := 10) rfl ?_); refine box_event ?hg (N := 10) ?hd (cs := #[.int .i64 0, .int .i64 0, .int .i64 0, .int .i64 0, .int .i64 0, .int .i64 0]) (t := 40) ?hr ?_; (case hd => rfl); (case hg => rfl); (case hr => first | (go_simp; done) | (go_simp; rfl)); intro gb483 hg w17 hbox hb; have n0_ := Aside0.mk (below_step (by repeat (first | (with_reducible first | exact HB.out | apply below_alloc | apply pw_below_drewN | apply below_drew1) | exact HB.out)) hb); have n1_ := Aside0.mk (hbox); have n2_ := Aside0.mk ((by rw [hg]; exact (below_size (by repeat (first | (with_reducible first | exact HB.out | apply below_alloc | apply pw_below_drewN | apply below_drew1) | exact HB.out))) : w.heap.size ≤ gb483)); have n3_ := Aside0.mk ((by rw [hg]; exact (below_size (by repeat (first | (with_reducible first | exact HB.out | apply below_alloc | apply pw_below_drewN | apply below_drew1) | exact HB.out))) : w.heap.size ≤ gb483)); clear HB; have HB := n0_; have BK483 := n1_; have GW483 := n2_; have GE483 := n3_; clear n0_ n1_ n2_ n3_; clear hb hbox hg; have hcz18_0 : w17.cell? ⟨gb483, 0, none⟩ = some (.int .i64 0) := (blk_cell BK483.out 0).trans rfl; have hcz18_1 : w17.cell? ⟨gb483, 1, none⟩ = some (.int .i64 0) := (blk_cell BK483.out 1).trans rfl; have hcz18_2 : w17.cell? ⟨gb483, 2, none⟩ = some (.int .i64 0) := (blk_cell BK483.out 2).trans rfl; have hcz18_3 : w17.cell? ⟨gb483, 3, none⟩ = some (.int .i64 0) := (blk_cell BK483.out 3).trans rfl; have hcz18_4 : w17.cell? ⟨gb483, 4, none⟩ = some (.int .i64 0) := (blk_cell BK483.out 4).trans rfl; have hcz18_5 : w17.cell? ⟨gb483, 5, none⟩ = some (.int .i64 0) := (blk_cell BK483.out 5).trans rfl; have hfz18_0 := blk_frozen BK483.out 0; have hfz18_1 := blk_frozen BK483.out 1; have hfz18_2 := blk_frozen BK483.out 2; have hfz18_3 := blk_frozen BK483.out 3; have hfz18_4 := blk_frozen BK483.out 4; have hfz18_5 := blk_frozen BK483.out 5))
           go_roundg k1
           case measure => have := HK1.out; omega
           case rel => exact ⟨(wrap64 (x16_1 + 1)), (by first | rfl | (simp; done) | (simp [*]; done)), H', ⟨by have := HK1.out; omega⟩, ⟨by repeat (first | (with_reducible first | exact HB.out | apply below_alloc | apply pw_below_drewN | apply below_drew1 | refine below_set ?_ GE483.out) | exact HB.out)⟩⟩
         ·rw [if_neg c13] at H
          have c13b0 : (((rd_T40 l0 x16_1).f2) == 1) = false := beq_eq_false_iff_ne.mpr c13
          have c13b1 : (((rd_T40 l0 x16_1).f2) != 1) = true := bne_iff_ne.mpr c13
          have H' := Aside0.mk H
          clear H
          have p482 : 0 ≤ (x16_1 : Int) := of_decide_eq_true (by first | (with_reducible assumption) | assumption)
          have q482 : x16_1 < (l0.length : Int) := of_decide_eq_true (by first | (with_reducible assumption) | assumption)
          obtain ⟨ad482, e482, hx482_0, hx482_1, hx482_2, hx482_3, hx482_4, hx482_5⟩ := at_T40 HR0.out x16_1 p482 q482
          cases e482
          replace hx482_0 := (HB.out.cell (World.block_lt_of_cell? w _ hx482_0)).trans hx482_0
          replace hx482_1 := (HB.out.cell (World.block_lt_of_cell? w _ hx482_1)).trans hx482_1
          replace hx482_2 := (HB.out.cell (World.block_lt_of_cell? w _ hx482_2)).trans hx482_2
          replace hx482_3 := (HB.out.cell (World.block_lt_of_cell? w _ hx482_3)).trans hx482_3
          replace hx482_4 := (HB.out.cell (World.block_lt_of_cell? w _ hx482_4)).trans hx482_4
          replace hx482_5 := (HB.out.cell (World.block_lt_of_cell? w _ hx482_5)).trans hx482_5
          replace p482 := eq_true p482
          replace q482 := eq_true q482
          go_wp2_with (first | ((with_reducible refine gate_dst (N := 10) rfl ?_); refine box_event ?hg (N := 10) ?hd (cs := #[.int .i64 0, .int .i64 0, .int .i64 0, .int .i64 0, .int .i64 0, .int .i64 0]) (t := 40) ?hr ?_; (case hd => rfl); (case hg => rfl); (case hr => first | (go_simp; done) | (go_simp; rfl)); intro gb483 hg w19 hbox hb; have n0_ := Aside0.mk (below_step (by repeat (first | (with_reducible first | exact HB.out | apply below_alloc | apply pw_below_drewN | apply below_drew1) | exact HB.out)) hb); have n1_ := Aside0.mk (hbox); have n2_ := Aside0.mk ((by rw [hg]; exact (below_size (by repeat (first | (with_reducible first | exact HB.out | apply below_alloc | apply pw_below_drewN | apply below_drew1) | exact HB.out))) : w.heap.size ≤ gb483)); have n3_ := Aside0.mk ((by rw [hg]; exact (below_size (by repeat (first | (with_reducible first | exact HB.out | apply below_alloc | apply pw_below_drewN | apply below_drew1) | exact HB.out))) : w.heap.size ≤ gb483)); clear HB; have HB := n0_; have BK483 := n1_; have GW483 := n2_; have GE483 := n3_; clear n0_ n1_ n2_ n3_; clear hb hbox hg; have hcz20_0 : w19.cell? ⟨gb483, 0, none⟩ = some (.int .i64 0) := (blk_cell BK483.out 0).trans rfl; have hcz20_1 : w19.cell? ⟨gb483, 1, none⟩ = some (.int .i64 0) := (blk_cell BK483.out 1).trans rfl; have hcz20_2 : w19.cell? ⟨gb483, 2, none⟩ = some (.int .i64 0) := (blk_cell BK483.out 2).trans rfl; have hcz20_3 : w19.cell? ⟨gb483, 3, none⟩ = some (.int .i64 0) := (blk_cell BK483.out 3).trans rfl; have hcz20_4 : w19.cell? ⟨gb483, 4, none⟩ = some (.int .i64 0) := (blk_cell BK483.out 4).trans rfl; have hcz20_5 : w19.cell? ⟨gb483, 5, none⟩ = some (.int .i64 0) := (blk_cell BK483.out 5).trans rfl; have hfz20_0 := blk_frozen BK483.out 0; have hfz20_1 := blk_frozen BK483.out 1; have hfz20_2 := blk_frozen BK483.out 2; have hfz20_3 := blk_frozen BK483.out 3; have hfz20_4 := blk_frozen BK483.out 4; have hfz20_5 := blk_frozen BK483.out 5))
          go_roundg k1
          case measure => have := HK1.out; omega
          case rel => exact ⟨(wrap64 (x16_1 + 1)), (by first | rfl | (simp; done) | (simp [*]; done)), H', ⟨by have := HK1.out; omega⟩, ⟨by repeat (first | (with_reducible first | exact HB.out | apply below_alloc | apply pw_below_drewN | apply below_drew1 | refine below_set ?_ GE483.out) | exact HB.out)⟩⟩
       ·rw [if_neg c9] at H
        have c9b0 : (((rd_T40 l0 x16_1).f3) == a1) = false := beq_eq_false_iff_ne.mpr c9
        have c9b1 : (((rd_T40 l0 x16_1).f3) != a1) = true := bne_iff_ne.mpr c9
        have H' := Aside0.mk H
        clear H
        have p482 : 0 ≤ (x16_1 : Int) := of_decide_eq_true (by first | (with_reducible assumption) | assumption)
        have q482 : x16_1 < (l0.length : Int) := of_decide_eq_true (by first | (with_reducible assumption) | assumption)
        obtain ⟨ad482, e482, hx482_0, hx482_1, hx482_2, hx482_3, hx482_4, hx482_5⟩ := at_T40 HR0.out x16_1 p482 q482
        cases e482
        replace hx482_0 := (HB.out.cell (World.block_lt_of_cell? w _ hx482_0)).trans hx482_0
        replace hx482_1 := (HB.out.cell (World.block_lt_of_cell? w _ hx482_1)).trans hx482_1
        replace hx482_2 := (HB.out.cell (World.block_lt_of_cell? w _ hx482_2)).trans hx482_2
        replace hx482_3 := (HB.out.cell (World.block_lt_of_cell? w _ hx482_3)).trans hx482_3
        replace hx482_4 := (HB.out.cell (World.block_lt_of_cell? w _ hx482_4)).trans hx482_4
        replace hx482_5 := (HB.out.cell (World.block_lt_of_cell? w _ hx482_5)).trans hx482_5
        replace p482 := eq_true p482
        replace q482 := eq_true q482
        go_wp2_with (first | ((with_reducible refine gate_dst (N := 10) rfl ?_); refine box_event ?hg (N := 10) ?hd (cs := #[.int .i64 0, .int .i64 0, .int .i64 0, .int .i64 0, .int .i64 0, .int .i64 0]) (t := 40) ?hr ?_; (case hd => rfl); (case hg => rfl); (case hr => first | (go_simp; done) | (go_simp; rfl)); intro gb483 hg w21 hbox hb; have n0_ := Aside0.mk (below_step (by repeat (first | (with_reducible first | exact HB.out | apply below_alloc | apply pw_below_drewN | apply below_drew1) | exact HB.out)) hb); have n1_ := Aside0.mk (hbox); have n2_ := Aside0.mk ((by rw [hg]; exact (below_size (by repeat (first | (with_reducible first | exact HB.out | apply below_alloc | apply pw_below_drewN | apply below_drew1) | exact HB.out))) : w.heap.size ≤ gb483)); have n3_ := Aside0.mk ((by rw [hg]; exact (below_size (by repeat (first | (with_reducible first | exact HB.out | apply below_alloc | apply pw_below_drewN | apply below_drew1) | exact HB.out))) : w.heap.size ≤ gb483)); clear HB; have HB := n0_; have BK483 := n1_; have GW483 := n2_; have GE483 := n3_; clear n0_ n1_ n2_ n3_; clear hb hbox hg; have hcz22_0 : w21.cell? ⟨gb483, 0, none⟩ = some (.int .i64 0) := (blk_cell BK483.out 0).trans rfl; have hcz22_1 : w21.cell? ⟨gb483, 1, none⟩ = some (.int .i64 0) := (blk_cell BK483.out 1).trans rfl; have hcz22_2 : w21.cell? ⟨gb483, 2, none⟩ = some (.int .i64 0) := (blk_cell BK483.out 2).trans rfl; have hcz22_3 : w21.cell? ⟨gb483, 3, none⟩ = some (.int .i64 0) := (blk_cell BK483.out 3).trans rfl; have hcz22_4 : w21.cell? ⟨gb483, 4, none⟩ = some (.int .i64 0) := (blk_cell BK483.out 4).trans rfl; have hcz22_5 : w21.cell? ⟨gb483, 5, none⟩ = some (.int .i64 0) := (blk_cell BK483.out 5).trans rfl; have hfz22_0 := blk_frozen BK483.out 0; have hfz22_1 := blk_frozen BK483.out 1; have hfz22_2 := blk_frozen BK483.out 2; have hfz22_3 := blk_frozen BK483.out 3; have hfz22_4 := blk_frozen BK483.out 4; have hfz22_5 := blk_frozen BK483.out 5))
        go_roundg k1
        case measure => have := HK1.out; omega
        case rel => exact ⟨(wrap64 (x16_1 + 1)), (by first | rfl | (simp; done) | (simp [*]; done)), H', ⟨by have := HK1.out; omega⟩, ⟨by repeat (first | (with_reducible first | exact HB.out | apply below_alloc | apply pw_below_drewN | apply below_drew1 | refine below_set ?_ GE483.out) | exact HB.out)⟩⟩
      ·rw [if_neg c8] at H
       exact absurd H (by simp)
     ·rw [if_neg c7] at H
      exact absurd H (by simp)
    ·rw [if_neg c6] at H
     have c6b0 : decide (x16_1 < (l0.length : Int)) = false := decide_eq_false c6
     clear c6
     obtain rfl := Option.some.inj H
     go_wp2
     go_ret
     exact ⟨by first | rfl | (simp [errW_none, errW_some] <;> rfl) | (simp [*, errW_none, errW_some] <;> rfl), by repeat (first | (with_reducible first | exact HB.out | apply below_alloc | apply pw_below_drewN | apply below_drew1) | exact HB.out)⟩

end Go.Proofs.Ytkclehmjkncmnaa.P
