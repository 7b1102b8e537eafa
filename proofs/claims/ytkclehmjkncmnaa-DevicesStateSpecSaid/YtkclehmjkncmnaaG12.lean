/- testamurref42.Check. -/
import Derived.Test.YtkclehmjkncmnaaM5
import Derived.Test.YtkclehmjkncmnaaGB
import Derived.BigQuiet
import Derived.IntWalk
namespace Go.Proofs.Ytkclehmjkncmnaa.P
open Go.RowKit Go.Proofs.YtkclehmjkncmnaaW.PrintWords Go.Proofs.YtkclehmjkncmnaaW.PrintLast Go.Proofs.YtkclehmjkncmnaaW.PrintMore
set_option linter.unusedVariables false

theorem rvalid_calls (o : S40) (w : World) : Calls Try.prog 61 #[.agg #[.int .i64 o.f0, .int .i64 o.f1, .int .i64 o.f2, .int .i64 o.f3, .int .i64 o.f4, .int .i64 o.f5]] w fun e w' => e = .returned (.bool (opV o)) ∧ Below w.heap.size w w' :=
 testamurref42_Valid.calls _ _ _ _ _ _ _ w (rvalid_ev o)
theorem rbefore_calls (a b : S40) (w : World) : Calls Try.prog 66 #[.agg #[.int .i64 a.f0, .int .i64 a.f1, .int .i64 a.f2, .int .i64 a.f3, .int .i64 a.f4, .int .i64 a.f5], .agg #[.int .i64 b.f0, .int .i64 b.f1, .int .i64 b.f2, .int .i64 b.f3, .int .i64 b.f4, .int .i64 b.f5]] w fun e w' => e = .returned (.bool (decide (cmpO a b < 0))) ∧ Below w.heap.size w w' := by
 obtain ⟨k, hk⟩ := (before_ev a b).rounds
 exact testamurref42_Before.calls k _ _ _ _ _ _ _ _ _ _ _ _ _ w hk
def testamurref42_Check.f (l0 : List S40) : Option Int := some (if chkD l0 = true then 0 else 420)
/-- An operation's cells. -/
def OpAt (w : World) (a : Addr) (o : S40) : Prop := w.cell? a = some (.int .i64 o.f0) ∧ w.cell? ⟨a.block, a.off + 1, none⟩ = some (.int .i64 o.f1) ∧ w.cell? ⟨a.block, a.off + 2, none⟩ = some (.int .i64 o.f2) ∧ w.cell? ⟨a.block, a.off + 3, none⟩ = some (.int .i64 o.f3) ∧ w.cell? ⟨a.block, a.off + 4, none⟩ = some (.int .i64 o.f4) ∧ w.cell? ⟨a.block, a.off + 5, none⟩ = some (.int .i64 o.f5)
theorem opAt_of {w : World} {A : Option Addr} {n : Nat} {xs : List S40} (h : Kd.C k40 w A n xs) (i : Nat) (h1 : i < n) : ∃ ad, A = some ad ∧ OpAt w (ad.add (i * 6)) (rd_T40 xs i) := by
 obtain ⟨ad, e, h⟩ := at_T40 h (i : Int) (by omega) (by omega)
 exact ⟨ad, e, h⟩
theorem opAt_below {w W : World} {a : Addr} {o : S40} (h : OpAt w a o) (hb : Below w.heap.size w W) : OpAt W a o := by
 obtain ⟨g0, g1, g2, g3, g4, g5⟩ := h
 exact ⟨(hb.cell (World.block_lt_of_cell? _ _ g0)).trans g0, (hb.cell (World.block_lt_of_cell? _ _ g1)).trans g1, (hb.cell (World.block_lt_of_cell? _ _ g2)).trans g2, (hb.cell (World.block_lt_of_cell? _ _ g3)).trans g3, (hb.cell (World.block_lt_of_cell? _ _ g4)).trans g4, (hb.cell (World.block_lt_of_cell? _ _ g5)).trans g5⟩
theorem any_false {l : List S40} {n : Nat} (hn : n < l.length) (h : ∀ q, q < n → sameKey (rd_T40 l n) (rd_T40 l q) = false) : (l.take n).any (sameKey (rd_T40 l n)) = false := by
 rw [List.any_eq_false]
 intro x hx
 obtain ⟨q, hq, rfl⟩ := List.mem_take_iff_getElem.1 hx
 rw [← rd_at40 l q (by omega), h q (by omega)]
 simp
set_option maxHeartbeats 2000000 in
set_option maxRecDepth 100000 in
theorem testamurref42_Check.calls (A0 : Option Addr) (c0 : Nat) (l0 : List S40) (r : Int) (w : World) (hr0 : Kd.C k40 w A0 l0.length l0) (hc0 : l0.length ≤ c0) (h : testamurref42_Check.f l0 = some r) :
  Calls Try.prog 30 #[.slice A0 l0.length c0] w fun e w' => e = .returned (.int .i64 r) ∧ Below w.heap.size w w' := by
 have HV := Aside0.mk (Option.some.inj h)
 have hu40 := Try.underlying40
 have HR := Aside0.mk hr0
 have HC := Aside0.mk hc0
 clear hr0 hc0 h
 by_cases c1 : l0.length ≤ 256
 ·have d1 : decide ((256 : Int) < (l0.length : Int)) = false := decide_eq_false (by omega)
  have E1 := Aside0.mk (decide_eq_true c1)
  go_enter Try.func30, Try.ntmps30
  go_wp2
  go_loopw [3] (fun v3 w' => ∃ n : Nat, v3 = .int .i64 n ∧ n ≤ l0.length ∧ Aside0 (∀ j : Nat, j < n → opAtOk l0 j = true) ∧ Aside0 (Below w.heap.size w w')) (fun v3 _ => l0.length - (intOf v3).toNat)
  case atStart => exact ⟨0, rfl, Nat.zero_le _, ⟨fun j hj => absurd hj (by omega)⟩, ⟨Below.refl _ _⟩⟩
  case round =>
   obtain ⟨n, rfl, hn, HN, HB⟩ := hrel
   by_cases hlt : n < l0.length
   ·have HLT := Aside0.mk hlt
    obtain ⟨ad, e1, hop⟩ := opAt_of (Kd.C_below HR.out HB.out) n hlt
    cases e1
    have HG : Aside0 (∀ W, Below wr.heap.size wr W → OpAt W (ad.add (n * 6)) (rd_T40 l0 n)) := ⟨fun W hW => opAt_below hop hW⟩
    have hdl : decide ((n : Int) < (l0.length : Int)) = true := decide_eq_true (by omega)
    have HBC : Aside0 (Below wr.heap.size wr wr) := ⟨Below.refl _ _⟩
    clear hop
    cases hv : opV (rd_T40 l0 n) with
    | false =>
     have HQ := Aside0.mk hv
     go_wp2
     refine wp_region_quiet (C := fun W => Below wr.heap.size wr W) (by kernel_rfl) (by kernel_rfl) (below_drew1 (Below.refl _ _)) ?_
     with_reducible refine BigFrame.wpQuiet_want ?gd (fun K hK => ?_)
     case gd => kernel_rfl
     with_reducible refine quiet_mk (.slice (some ad) l0.length c0) (fun W hW => ?_) (hK _ ?_)
     ·(unfold Oper.quietAt; clear hW; go_simp)
     clear hK K
     simp only [Act.put, List.setIfInBounds_toArray, List.set_cons_zero, List.set_cons_succ]
     with_reducible refine BigFrame.wpQuiet_want ?gd (fun K hK => ?_)
     case gd => kernel_rfl
     with_reducible refine quiet_mk (.int .i64 n) (fun W hW => ?_) (hK _ ?_)
     ·(unfold Oper.quietAt; clear hW; go_simp)
     clear hK K
     simp only [Act.put, List.setIfInBounds_toArray, List.set_cons_zero, List.set_cons_succ]
     with_reducible refine BigFrame.wpQuiet_want ?gd (fun K hK => ?_)
     case gd => kernel_rfl
     with_reducible refine quiet_mk (.pointer (some (ad.add (n * 6)))) (fun W hW => ?_) (hK _ ?_)
     ·(unfold Oper.quietAt; clear hW; go_simp)
     clear hK K
     simp only [Act.put, List.setIfInBounds_toArray, List.set_cons_zero, List.set_cons_succ]
     with_reducible refine BigFrame.wpQuiet_want ?gd (fun K hK => ?_)
     case gd => kernel_rfl
     with_reducible refine quiet_mk (.agg #[.int .i64 (rd_T40 l0 n).f0, .int .i64 (rd_T40 l0 n).f1, .int .i64 (rd_T40 l0 n).f2, .int .i64 (rd_T40 l0 n).f3, .int .i64 (rd_T40 l0 n).f4, .int .i64 (rd_T40 l0 n).f5]) (fun W hW => ?_) (hK _ ?_)
     ·(unfold Oper.quietAt; obtain ⟨z0, z1, z2, z3, z4, z5⟩ := HG.out W hW; clear hW; go_simp)
     clear hK K
     simp only [Act.put, List.setIfInBounds_toArray, List.set_cons_zero, List.set_cons_succ]
     with_reducible refine BigFrame.wpQuiet_want ?gd (fun K hK => ?_)
     case gd => kernel_rfl
     with_reducible refine quiet_mk (.bool false) (fun W hW => ?_) (hK _ ?_)
     ·(unfold Oper.quietAt; go_simp; refine (rvalid_calls (rd_T40 l0 n) _).mono ?_; rintro e w1 ⟨rfl, hb1⟩; exact ⟨by rw [HQ.out], below2 hW hb1⟩)
     clear hK K
     simp only [Act.put, List.setIfInBounds_toArray, List.set_cons_zero, List.set_cons_succ]
     with_reducible refine BigFrame.wpQuiet_want ?gd (fun K hK => ?_)
     case gd => kernel_rfl
     with_reducible refine quiet_mk (.bool true) (fun W hW => ?_) (hK _ ?_)
     ·(unfold Oper.quietAt; clear hW; go_simp)
     clear hK K
     simp only [Act.put, List.setIfInBounds_toArray, List.set_cons_zero, List.set_cons_succ]
     with_reducible refine BigFrame.wpQuiet_want ?gd (fun K hK => ?_)
     case gd => kernel_rfl
     with_reducible refine quiet_mk (.bool true) (fun W hW => ?_) (hK _ ?_)
     ·(unfold Oper.quietAt; clear hW; go_simp)
     clear hK K
     simp only [Act.put, List.setIfInBounds_toArray, List.set_cons_zero, List.set_cons_succ]
     iterate 15 ((with_reducible refine BigFrame.wpQuiet_skip ?gd ?_); (case gd => kernel_rfl); simp only [Act.put, List.setIfInBounds_toArray, List.set_cons_zero, List.set_cons_succ])
     with_reducible refine BigFrame.wpQuiet_want ?gd (fun K hK => ?_)
     case gd => kernel_rfl
     with_reducible refine quiet_mk (.bool true) (fun W hW => ?_) (hK _ ?_)
     ·(unfold Oper.quietAt; clear hW; go_simp)
     clear hK K
     simp only [Act.put, List.setIfInBounds_toArray, List.set_cons_zero, List.set_cons_succ]
     refine wpQuiet_nil ?_
     intro w2 hw2
     go_wp2
     go_ret
     have hchk : chkD l0 = false := chkD_false HLT.out (opAt1 HQ.out)
     rw [← HV.out, hchk]
     exact ⟨rfl, below2 HB.out hw2⟩
    | true =>
     have HQ := Aside0.mk hv
     by_cases h0 : n = 0
     ·have hn0 : decide ((0 : Int) < (n : Int)) = false := decide_eq_false (by omega)
      have HN0 := Aside0.mk h0
      clear h0
      go_wp2
      refine wp_region_quiet (C := fun W => Below wr.heap.size wr W) (by kernel_rfl) (by kernel_rfl) (below_drew1 (Below.refl _ _)) ?_
      with_reducible refine BigFrame.wpQuiet_want ?gd (fun K hK => ?_)
      case gd => kernel_rfl
      with_reducible refine quiet_mk (.slice (some ad) l0.length c0) (fun W hW => ?_) (hK _ ?_)
      ·(unfold Oper.quietAt; clear hW; go_simp)
      clear hK K
      simp only [Act.put, List.setIfInBounds_toArray, List.set_cons_zero, List.set_cons_succ]
      with_reducible refine BigFrame.wpQuiet_want ?gd (fun K hK => ?_)
      case gd => kernel_rfl
      with_reducible refine quiet_mk (.int .i64 n) (fun W hW => ?_) (hK _ ?_)
      ·(unfold Oper.quietAt; clear hW; go_simp)
      clear hK K
      simp only [Act.put, List.setIfInBounds_toArray, List.set_cons_zero, List.set_cons_succ]
      with_reducible refine BigFrame.wpQuiet_want ?gd (fun K hK => ?_)
      case gd => kernel_rfl
      with_reducible refine quiet_mk (.pointer (some (ad.add (n * 6)))) (fun W hW => ?_) (hK _ ?_)
      ·(unfold Oper.quietAt; clear hW; go_simp)
      clear hK K
      simp only [Act.put, List.setIfInBounds_toArray, List.set_cons_zero, List.set_cons_succ]
      with_reducible refine BigFrame.wpQuiet_want ?gd (fun K hK => ?_)
      case gd => kernel_rfl
      with_reducible refine quiet_mk (.agg #[.int .i64 (rd_T40 l0 n).f0, .int .i64 (rd_T40 l0 n).f1, .int .i64 (rd_T40 l0 n).f2, .int .i64 (rd_T40 l0 n).f3, .int .i64 (rd_T40 l0 n).f4, .int .i64 (rd_T40 l0 n).f5]) (fun W hW => ?_) (hK _ ?_)
      ·(unfold Oper.quietAt; obtain ⟨z0, z1, z2, z3, z4, z5⟩ := HG.out W hW; clear hW; go_simp)
      clear hK K
      simp only [Act.put, List.setIfInBounds_toArray, List.set_cons_zero, List.set_cons_succ]
      with_reducible refine BigFrame.wpQuiet_want ?gd (fun K hK => ?_)
      case gd => kernel_rfl
      with_reducible refine quiet_mk (.bool true) (fun W hW => ?_) (hK _ ?_)
      ·(unfold Oper.quietAt; go_simp; refine (rvalid_calls (rd_T40 l0 n) _).mono ?_; rintro e w1 ⟨rfl, hb1⟩; exact ⟨by rw [HQ.out], below2 hW hb1⟩)
      clear hK K
      simp only [Act.put, List.setIfInBounds_toArray, List.set_cons_zero, List.set_cons_succ]
      with_reducible refine BigFrame.wpQuiet_want ?gd (fun K hK => ?_)
      case gd => kernel_rfl
      with_reducible refine quiet_mk (.bool false) (fun W hW => ?_) (hK _ ?_)
      ·(unfold Oper.quietAt; clear hW; go_simp)
      clear hK K
      simp only [Act.put, List.setIfInBounds_toArray, List.set_cons_zero, List.set_cons_succ]
      with_reducible refine BigFrame.wpQuiet_want ?gd (fun K hK => ?_)
      case gd => kernel_rfl
      with_reducible refine quiet_mk (.bool false) (fun W hW => ?_) (hK _ ?_)
      ·(unfold Oper.quietAt; clear hW; go_simp)
      clear hK K
      simp only [Act.put, List.setIfInBounds_toArray, List.set_cons_zero, List.set_cons_succ]
      with_reducible refine BigFrame.wpQuiet_want ?gd (fun K hK => ?_)
      case gd => kernel_rfl
      with_reducible refine quiet_mk (.int .i64 n) (fun W hW => ?_) (hK _ ?_)
      ·(unfold Oper.quietAt; clear hW; go_simp)
      clear hK K
      simp only [Act.put, List.setIfInBounds_toArray, List.set_cons_zero, List.set_cons_succ]
      with_reducible refine BigFrame.wpQuiet_want ?gd (fun K hK => ?_)
      case gd => kernel_rfl
      with_reducible refine quiet_mk (.bool false) (fun W hW => ?_) (hK _ ?_)
      ·(unfold Oper.quietAt; clear hW; first | (go_simp; done) | (go_simp; have := HN0.out; omega))
      clear hK K
      simp only [Act.put, List.setIfInBounds_toArray, List.set_cons_zero, List.set_cons_succ]
      with_reducible refine BigFrame.wpQuiet_want ?gd (fun K hK => ?_)
      case gd => kernel_rfl
      with_reducible refine quiet_mk (.bool false) (fun W hW => ?_) (hK _ ?_)
      ·(unfold Oper.quietAt; clear hW; go_simp)
      clear hK K
      simp only [Act.put, List.setIfInBounds_toArray, List.set_cons_zero, List.set_cons_succ]
      iterate 11 ((with_reducible refine BigFrame.wpQuiet_skip ?gd ?_); (case gd => kernel_rfl); simp only [Act.put, List.setIfInBounds_toArray, List.set_cons_zero, List.set_cons_succ])
      with_reducible refine BigFrame.wpQuiet_want ?gd (fun K hK => ?_)
      case gd => kernel_rfl
      with_reducible refine quiet_mk (.bool false) (fun W hW => ?_) (hK _ ?_)
      ·(unfold Oper.quietAt; clear hW; go_simp)
      clear hK K
      simp only [Act.put, List.setIfInBounds_toArray, List.set_cons_zero, List.set_cons_succ]
      with_reducible refine BigFrame.wpQuiet_want ?gd (fun K hK => ?_)
      case gd => kernel_rfl
      with_reducible refine quiet_mk (.bool false) (fun W hW => ?_) (hK _ ?_)
      ·(unfold Oper.quietAt; clear hW; go_simp)
      clear hK K
      simp only [Act.put, List.setIfInBounds_toArray, List.set_cons_zero, List.set_cons_succ]
      refine wpQuiet_nil ?_
      intro w2 hw2
      have HB2 := Aside0.mk (below2 HB.out hw2)
      clear HB hw2 HG HBC
      go_wp2
      go_loopw [4] (fun v4 w' => ∃ k : Nat, v4 = .int .i64 k ∧ k ≤ n ∧ Aside0 (∀ j : Nat, j < k → sameKey (rd_T40 l0 n) (rd_T40 l0 j) = false) ∧ Aside0 (Below w.heap.size w w')) (fun v4 _ => n - (intOf v4).toNat)
      case atStart => exact ⟨0, rfl, Nat.zero_le _, ⟨fun j hj => absurd hj (by omega)⟩, HB2⟩
      case round =>
       obtain ⟨k, rfl, hk, HK, HB3⟩ := hrel
       by_cases hlk : k < n
       ·have HLK := Aside0.mk hlk
        have hlk2 : k < l0.length := by have := HLT.out; omega
        have hdk : decide ((k : Int) < (n : Int)) = true := decide_eq_true (by omega)
        obtain ⟨ad2, e2, x0, x1, _, _, _, _⟩ := opAt_of (Kd.C_below HR.out HB3.out) k hlk2
        obtain ⟨ad3, e3, y0, y1, _, _, _, _⟩ := opAt_of (Kd.C_below HR.out HB3.out) n HLT.out
        cases e2
        cases e3
        have hkl : (k : Int) < (l0.length : Int) := by omega
        have hnl : (n : Int) < (l0.length : Int) := by have := HLT.out; omega
        have HB4 : ∀ q, Aside0 (Below w.heap.size w (wr.drewN q)) := fun q => ⟨pw_below_drewN HB3.out q⟩
        by_cases q0 : (rd_T40 l0 k).f0 = (rd_T40 l0 n).f0
        ·by_cases q1 : (rd_T40 l0 k).f1 = (rd_T40 l0 n).f1
         ·have b0 : ((rd_T40 l0 k).f0 == (rd_T40 l0 n).f0) = true := by simp [q0]
          have b1 : ((rd_T40 l0 k).f1 == (rd_T40 l0 n).f1) = true := by simp [q1]
          have HS : Aside0 (sameKey (rd_T40 l0 n) (rd_T40 l0 k) = true) := ⟨key_iff.2 ⟨q0.symm, q1.symm⟩⟩
          clear q0 q1
          go_wp2
          go_quiet (fail)
          go_wp2
          go_ret
          have hchk : chkD l0 = false := chkD_false HLT.out (opAt2 (List.any_eq_true.2 ⟨rd_T40 l0 k, by rw [rd_at40 l0 k (by have := HLT.out; have := HLK.out; omega)]; exact List.mem_take_iff_getElem.2 ⟨k, by have := HLT.out; have := HLK.out; omega, rfl⟩, HS.out⟩))
          rw [← HV.out, hchk]
          exact ⟨rfl, (HB4 _).out⟩
         ·have b0 : ((rd_T40 l0 k).f0 == (rd_T40 l0 n).f0) = true := by simp [q0]
          have b1 : ((rd_T40 l0 k).f1 == (rd_T40 l0 n).f1) = false := by simpa using q1
          have HS : Aside0 (sameKey (rd_T40 l0 n) (rd_T40 l0 k) = false) := ⟨by rw [← Bool.not_eq_true, key_iff]; exact fun h => q1 h.2.symm⟩
          clear q0 q1
          go_wp2
          go_quiet (fail)
          go_wp2
          go_roundw
          case rel => exact ⟨k + 1, by go_num, HLK.out, ⟨fun j hj => (Nat.lt_or_ge j k).elim (HK.out j) (fun h => (show j = k by omega) ▸ HS.out)⟩, HB4 _⟩
          case measure => have := HLK.out; simp [intOf]; omega
        ·have b0 : ((rd_T40 l0 k).f0 == (rd_T40 l0 n).f0) = false := by simpa using q0
         have HS : Aside0 (sameKey (rd_T40 l0 n) (rd_T40 l0 k) = false) := ⟨by rw [← Bool.not_eq_true, key_iff]; exact fun h => q0 h.1.symm⟩
         clear q0
         go_wp2
         go_quiet (fail)
         go_wp2
         go_roundw
         case rel => exact ⟨k + 1, by go_num, HLK.out, ⟨fun j hj => (Nat.lt_or_ge j k).elim (HK.out j) (fun h => (show j = k by omega) ▸ HS.out)⟩, HB4 _⟩
         case measure => have := HLK.out; simp [intOf]; omega
       ·have hdk : decide ((k : Int) < (n : Int)) = false := decide_eq_false (by omega)
        have hdk2 : decide (k < n) = false := decide_eq_false hlk
        have HKN : Aside0 (n ≤ k) := ⟨by omega⟩
        go_wp2
        go_roundw
        case rel =>
         refine ⟨n + 1, by go_num, HLT.out, ⟨fun j hj => ?_⟩, HB3⟩
         rcases Nat.lt_or_ge j n with h | h
         ·exact HN.out j h
         ·obtain rfl : j = n := by omega
          refine opAt4 HQ.out (any_false HLT.out (fun q hq => HK.out q (by have := HKN.out; omega))) (by rw [decide_eq_true HN0.out, Bool.true_or])
        case measure => have := HLT.out; simp [intOf]; omega
     ·obtain ⟨m, hm⟩ : ∃ m, n = m + 1 := ⟨n - 1, by omega⟩
      have hn0 : decide ((0 : Int) < (n : Int)) = true := decide_eq_true (by omega)
      have hw1 : IntKind.i64.wrap ((n : Int) - 1) = (m : Int) := by rw [IntWalk.i64_in _ (by omega)]; omega
      have hw5 : IntKind.i64.wrap (m : Int) = (m : Int) := IntWalk.i64_in _ (by omega)
      have hml : (m : Int) < (l0.length : Int) := by omega
      obtain ⟨ad4, e4, hop⟩ := opAt_of (Kd.C_below HR.out HB.out) m (by omega)
      cases e4
      have HGM : Aside0 (∀ W, Below wr.heap.size wr W → OpAt W (ad.add (m * 6)) (rd_T40 l0 m)) := ⟨fun W hW => opAt_below hop hW⟩
      have HM := Aside0.mk hm
      clear hop hm h0
      cases hls : decide (cmpO (rd_T40 l0 m) (rd_T40 l0 n) < 0) with
      | false =>
       have HLS := Aside0.mk hls
       go_wp2
       refine wp_region_quiet (C := fun W => Below wr.heap.size wr W) (by kernel_rfl) (by kernel_rfl) (below_drew1 (Below.refl _ _)) ?_
       with_reducible refine BigFrame.wpQuiet_want ?gd (fun K hK => ?_)
       case gd => kernel_rfl
       with_reducible refine quiet_mk (.slice (some ad) l0.length c0) (fun W hW => ?_) (hK _ ?_)
       ·(unfold Oper.quietAt; clear hW; go_simp)
       clear hK K
       simp only [Act.put, List.setIfInBounds_toArray, List.set_cons_zero, List.set_cons_succ]
       with_reducible refine BigFrame.wpQuiet_want ?gd (fun K hK => ?_)
       case gd => kernel_rfl
       with_reducible refine quiet_mk (.int .i64 n) (fun W hW => ?_) (hK _ ?_)
       ·(unfold Oper.quietAt; clear hW; go_simp)
       clear hK K
       simp only [Act.put, List.setIfInBounds_toArray, List.set_cons_zero, List.set_cons_succ]
       with_reducible refine BigFrame.wpQuiet_want ?gd (fun K hK => ?_)
       case gd => kernel_rfl
       with_reducible refine quiet_mk (.pointer (some (ad.add (n * 6)))) (fun W hW => ?_) (hK _ ?_)
       ·(unfold Oper.quietAt; clear hW; go_simp)
       clear hK K
       simp only [Act.put, List.setIfInBounds_toArray, List.set_cons_zero, List.set_cons_succ]
       with_reducible refine BigFrame.wpQuiet_want ?gd (fun K hK => ?_)
       case gd => kernel_rfl
       with_reducible refine quiet_mk (.agg #[.int .i64 (rd_T40 l0 n).f0, .int .i64 (rd_T40 l0 n).f1, .int .i64 (rd_T40 l0 n).f2, .int .i64 (rd_T40 l0 n).f3, .int .i64 (rd_T40 l0 n).f4, .int .i64 (rd_T40 l0 n).f5]) (fun W hW => ?_) (hK _ ?_)
       ·(unfold Oper.quietAt; obtain ⟨z0, z1, z2, z3, z4, z5⟩ := HG.out W hW; clear hW; go_simp)
       clear hK K
       simp only [Act.put, List.setIfInBounds_toArray, List.set_cons_zero, List.set_cons_succ]
       with_reducible refine BigFrame.wpQuiet_want ?gd (fun K hK => ?_)
       case gd => kernel_rfl
       with_reducible refine quiet_mk (.bool true) (fun W hW => ?_) (hK _ ?_)
       ·(unfold Oper.quietAt; go_simp; refine (rvalid_calls (rd_T40 l0 n) _).mono ?_; rintro e w1 ⟨rfl, hb1⟩; exact ⟨by rw [HQ.out], below2 hW hb1⟩)
       clear hK K
       simp only [Act.put, List.setIfInBounds_toArray, List.set_cons_zero, List.set_cons_succ]
       with_reducible refine BigFrame.wpQuiet_want ?gd (fun K hK => ?_)
       case gd => kernel_rfl
       with_reducible refine quiet_mk (.bool false) (fun W hW => ?_) (hK _ ?_)
       ·(unfold Oper.quietAt; clear hW; go_simp)
       clear hK K
       simp only [Act.put, List.setIfInBounds_toArray, List.set_cons_zero, List.set_cons_succ]
       with_reducible refine BigFrame.wpQuiet_want ?gd (fun K hK => ?_)
       case gd => kernel_rfl
       with_reducible refine quiet_mk (.bool false) (fun W hW => ?_) (hK _ ?_)
       ·(unfold Oper.quietAt; clear hW; go_simp)
       clear hK K
       simp only [Act.put, List.setIfInBounds_toArray, List.set_cons_zero, List.set_cons_succ]
       with_reducible refine BigFrame.wpQuiet_want ?gd (fun K hK => ?_)
       case gd => kernel_rfl
       with_reducible refine quiet_mk (.int .i64 n) (fun W hW => ?_) (hK _ ?_)
       ·(unfold Oper.quietAt; clear hW; go_simp)
       clear hK K
       simp only [Act.put, List.setIfInBounds_toArray, List.set_cons_zero, List.set_cons_succ]
       with_reducible refine BigFrame.wpQuiet_want ?gd (fun K hK => ?_)
       case gd => kernel_rfl
       with_reducible refine quiet_mk (.bool true) (fun W hW => ?_) (hK _ ?_)
       ·(unfold Oper.quietAt; clear hW; first | (go_simp; done) | (go_simp; have := HM.out; omega))
       clear hK K
       simp only [Act.put, List.setIfInBounds_toArray, List.set_cons_zero, List.set_cons_succ]
       with_reducible refine BigFrame.wpQuiet_want ?gd (fun K hK => ?_)
       case gd => kernel_rfl
       with_reducible refine quiet_mk (.bool true) (fun W hW => ?_) (hK _ ?_)
       ·(unfold Oper.quietAt; clear hW; go_simp)
       clear hK K
       simp only [Act.put, List.setIfInBounds_toArray, List.set_cons_zero, List.set_cons_succ]
       with_reducible refine BigFrame.wpQuiet_want ?gd (fun K hK => ?_)
       case gd => kernel_rfl
       with_reducible refine quiet_mk (.slice (some ad) l0.length c0) (fun W hW => ?_) (hK _ ?_)
       ·(unfold Oper.quietAt; clear hW; go_simp)
       clear hK K
       simp only [Act.put, List.setIfInBounds_toArray, List.set_cons_zero, List.set_cons_succ]
       with_reducible refine BigFrame.wpQuiet_want ?gd (fun K hK => ?_)
       case gd => kernel_rfl
       with_reducible refine quiet_mk (.int .i64 n) (fun W hW => ?_) (hK _ ?_)
       ·(unfold Oper.quietAt; clear hW; go_simp)
       clear hK K
       simp only [Act.put, List.setIfInBounds_toArray, List.set_cons_zero, List.set_cons_succ]
       with_reducible refine BigFrame.wpQuiet_want ?gd (fun K hK => ?_)
       case gd => kernel_rfl
       with_reducible refine quiet_mk (.int .i64 m) (fun W hW => ?_) (hK _ ?_)
       ·(unfold Oper.quietAt; clear hW; first | (go_simp; done) | (go_simp; have := HM.out; omega))
       clear hK K
       simp only [Act.put, List.setIfInBounds_toArray, List.set_cons_zero, List.set_cons_succ]
       with_reducible refine BigFrame.wpQuiet_want ?gd (fun K hK => ?_)
       case gd => kernel_rfl
       with_reducible refine quiet_mk (.pointer (some (ad.add (m * 6)))) (fun W hW => ?_) (hK _ ?_)
       ·(unfold Oper.quietAt; clear hW; go_simp)
       clear hK K
       simp only [Act.put, List.setIfInBounds_toArray, List.set_cons_zero, List.set_cons_succ]
       with_reducible refine BigFrame.wpQuiet_want ?gd (fun K hK => ?_)
       case gd => kernel_rfl
       with_reducible refine quiet_mk (.agg #[.int .i64 (rd_T40 l0 m).f0, .int .i64 (rd_T40 l0 m).f1, .int .i64 (rd_T40 l0 m).f2, .int .i64 (rd_T40 l0 m).f3, .int .i64 (rd_T40 l0 m).f4, .int .i64 (rd_T40 l0 m).f5]) (fun W hW => ?_) (hK _ ?_)
       ·(unfold Oper.quietAt; obtain ⟨z0, z1, z2, z3, z4, z5⟩ := HGM.out W hW; clear hW; go_simp)
       clear hK K
       simp only [Act.put, List.setIfInBounds_toArray, List.set_cons_zero, List.set_cons_succ]
       with_reducible refine BigFrame.wpQuiet_want ?gd (fun K hK => ?_)
       case gd => kernel_rfl
       with_reducible refine quiet_mk (.slice (some ad) l0.length c0) (fun W hW => ?_) (hK _ ?_)
       ·(unfold Oper.quietAt; clear hW; go_simp)
       clear hK K
       simp only [Act.put, List.setIfInBounds_toArray, List.set_cons_zero, List.set_cons_succ]
       with_reducible refine BigFrame.wpQuiet_want ?gd (fun K hK => ?_)
       case gd => kernel_rfl
       with_reducible refine quiet_mk (.int .i64 n) (fun W hW => ?_) (hK _ ?_)
       ·(unfold Oper.quietAt; clear hW; go_simp)
       clear hK K
       simp only [Act.put, List.setIfInBounds_toArray, List.set_cons_zero, List.set_cons_succ]
       with_reducible refine BigFrame.wpQuiet_want ?gd (fun K hK => ?_)
       case gd => kernel_rfl
       with_reducible refine quiet_mk (.pointer (some (ad.add (n * 6)))) (fun W hW => ?_) (hK _ ?_)
       ·(unfold Oper.quietAt; clear hW; go_simp)
       clear hK K
       simp only [Act.put, List.setIfInBounds_toArray, List.set_cons_zero, List.set_cons_succ]
       with_reducible refine BigFrame.wpQuiet_want ?gd (fun K hK => ?_)
       case gd => kernel_rfl
       with_reducible refine quiet_mk (.agg #[.int .i64 (rd_T40 l0 n).f0, .int .i64 (rd_T40 l0 n).f1, .int .i64 (rd_T40 l0 n).f2, .int .i64 (rd_T40 l0 n).f3, .int .i64 (rd_T40 l0 n).f4, .int .i64 (rd_T40 l0 n).f5]) (fun W hW => ?_) (hK _ ?_)
       ·(unfold Oper.quietAt; obtain ⟨z0, z1, z2, z3, z4, z5⟩ := HG.out W hW; clear hW; go_simp)
       clear hK K
       simp only [Act.put, List.setIfInBounds_toArray, List.set_cons_zero, List.set_cons_succ]
       with_reducible refine BigFrame.wpQuiet_want ?gd (fun K hK => ?_)
       case gd => kernel_rfl
       with_reducible refine quiet_mk (.bool false) (fun W hW => ?_) (hK _ ?_)
       ·(unfold Oper.quietAt; go_simp; refine (rbefore_calls (rd_T40 l0 m) (rd_T40 l0 n) _).mono ?_; rintro e w1 ⟨rfl, hb1⟩; exact ⟨by rw [HLS.out], below2 hW hb1⟩)
       clear hK K
       simp only [Act.put, List.setIfInBounds_toArray, List.set_cons_zero, List.set_cons_succ]
       with_reducible refine BigFrame.wpQuiet_want ?gd (fun K hK => ?_)
       case gd => kernel_rfl
       with_reducible refine quiet_mk (.bool true) (fun W hW => ?_) (hK _ ?_)
       ·(unfold Oper.quietAt; clear hW; go_simp)
       clear hK K
       simp only [Act.put, List.setIfInBounds_toArray, List.set_cons_zero, List.set_cons_succ]
       with_reducible refine BigFrame.wpQuiet_want ?gd (fun K hK => ?_)
       case gd => kernel_rfl
       with_reducible refine quiet_mk (.bool true) (fun W hW => ?_) (hK _ ?_)
       ·(unfold Oper.quietAt; clear hW; go_simp)
       clear hK K
       simp only [Act.put, List.setIfInBounds_toArray, List.set_cons_zero, List.set_cons_succ]
       with_reducible refine BigFrame.wpQuiet_want ?gd (fun K hK => ?_)
       case gd => kernel_rfl
       with_reducible refine quiet_mk (.bool true) (fun W hW => ?_) (hK _ ?_)
       ·(unfold Oper.quietAt; clear hW; go_simp)
       clear hK K
       simp only [Act.put, List.setIfInBounds_toArray, List.set_cons_zero, List.set_cons_succ]
       refine wpQuiet_nil ?_
       intro w2 hw2
       go_wp2
       go_ret
       have hchk : chkD l0 = false := chkD_false HLT.out (opAt5 HM.out (of_decide_eq_false HLS.out))
       rw [← HV.out, hchk]
       exact ⟨rfl, below2 HB.out hw2⟩
      | true =>
       have HLS := Aside0.mk hls
       go_wp2
       refine wp_region_quiet (C := fun W => Below wr.heap.size wr W) (by kernel_rfl) (by kernel_rfl) (below_drew1 (Below.refl _ _)) ?_
       with_reducible refine BigFrame.wpQuiet_want ?gd (fun K hK => ?_)
       case gd => kernel_rfl
       with_reducible refine quiet_mk (.slice (some ad) l0.length c0) (fun W hW => ?_) (hK _ ?_)
       ·(unfold Oper.quietAt; clear hW; go_simp)
       clear hK K
       simp only [Act.put, List.setIfInBounds_toArray, List.set_cons_zero, List.set_cons_succ]
       with_reducible refine BigFrame.wpQuiet_want ?gd (fun K hK => ?_)
       case gd => kernel_rfl
       with_reducible refine quiet_mk (.int .i64 n) (fun W hW => ?_) (hK _ ?_)
       ·(unfold Oper.quietAt; clear hW; go_simp)
       clear hK K
       simp only [Act.put, List.setIfInBounds_toArray, List.set_cons_zero, List.set_cons_succ]
       with_reducible refine BigFrame.wpQuiet_want ?gd (fun K hK => ?_)
       case gd => kernel_rfl
       with_reducible refine quiet_mk (.pointer (some (ad.add (n * 6)))) (fun W hW => ?_) (hK _ ?_)
       ·(unfold Oper.quietAt; clear hW; go_simp)
       clear hK K
       simp only [Act.put, List.setIfInBounds_toArray, List.set_cons_zero, List.set_cons_succ]
       with_reducible refine BigFrame.wpQuiet_want ?gd (fun K hK => ?_)
       case gd => kernel_rfl
       with_reducible refine quiet_mk (.agg #[.int .i64 (rd_T40 l0 n).f0, .int .i64 (rd_T40 l0 n).f1, .int .i64 (rd_T40 l0 n).f2, .int .i64 (rd_T40 l0 n).f3, .int .i64 (rd_T40 l0 n).f4, .int .i64 (rd_T40 l0 n).f5]) (fun W hW => ?_) (hK _ ?_)
       ·(unfold Oper.quietAt; obtain ⟨z0, z1, z2, z3, z4, z5⟩ := HG.out W hW; clear hW; go_simp)
       clear hK K
       simp only [Act.put, List.setIfInBounds_toArray, List.set_cons_zero, List.set_cons_succ]
       with_reducible refine BigFrame.wpQuiet_want ?gd (fun K hK => ?_)
       case gd => kernel_rfl
       with_reducible refine quiet_mk (.bool true) (fun W hW => ?_) (hK _ ?_)
       ·(unfold Oper.quietAt; go_simp; refine (rvalid_calls (rd_T40 l0 n) _).mono ?_; rintro e w1 ⟨rfl, hb1⟩; exact ⟨by rw [HQ.out], below2 hW hb1⟩)
       clear hK K
       simp only [Act.put, List.setIfInBounds_toArray, List.set_cons_zero, List.set_cons_succ]
       with_reducible refine BigFrame.wpQuiet_want ?gd (fun K hK => ?_)
       case gd => kernel_rfl
       with_reducible refine quiet_mk (.bool false) (fun W hW => ?_) (hK _ ?_)
       ·(unfold Oper.quietAt; clear hW; go_simp)
       clear hK K
       simp only [Act.put, List.setIfInBounds_toArray, List.set_cons_zero, List.set_cons_succ]
       with_reducible refine BigFrame.wpQuiet_want ?gd (fun K hK => ?_)
       case gd => kernel_rfl
       with_reducible refine quiet_mk (.bool false) (fun W hW => ?_) (hK _ ?_)
       ·(unfold Oper.quietAt; clear hW; go_simp)
       clear hK K
       simp only [Act.put, List.setIfInBounds_toArray, List.set_cons_zero, List.set_cons_succ]
       with_reducible refine BigFrame.wpQuiet_want ?gd (fun K hK => ?_)
       case gd => kernel_rfl
       with_reducible refine quiet_mk (.int .i64 n) (fun W hW => ?_) (hK _ ?_)
       ·(unfold Oper.quietAt; clear hW; go_simp)
       clear hK K
       simp only [Act.put, List.setIfInBounds_toArray, List.set_cons_zero, List.set_cons_succ]
       with_reducible refine BigFrame.wpQuiet_want ?gd (fun K hK => ?_)
       case gd => kernel_rfl
       with_reducible refine quiet_mk (.bool true) (fun W hW => ?_) (hK _ ?_)
       ·(unfold Oper.quietAt; clear hW; first | (go_simp; done) | (go_simp; have := HM.out; omega))
       clear hK K
       simp only [Act.put, List.setIfInBounds_toArray, List.set_cons_zero, List.set_cons_succ]
       with_reducible refine BigFrame.wpQuiet_want ?gd (fun K hK => ?_)
       case gd => kernel_rfl
       with_reducible refine quiet_mk (.bool true) (fun W hW => ?_) (hK _ ?_)
       ·(unfold Oper.quietAt; clear hW; go_simp)
       clear hK K
       simp only [Act.put, List.setIfInBounds_toArray, List.set_cons_zero, List.set_cons_succ]
       with_reducible refine BigFrame.wpQuiet_want ?gd (fun K hK => ?_)
       case gd => kernel_rfl
       with_reducible refine quiet_mk (.slice (some ad) l0.length c0) (fun W hW => ?_) (hK _ ?_)
       ·(unfold Oper.quietAt; clear hW; go_simp)
       clear hK K
       simp only [Act.put, List.setIfInBounds_toArray, List.set_cons_zero, List.set_cons_succ]
       with_reducible refine BigFrame.wpQuiet_want ?gd (fun K hK => ?_)
       case gd => kernel_rfl
       with_reducible refine quiet_mk (.int .i64 n) (fun W hW => ?_) (hK _ ?_)
       ·(unfold Oper.quietAt; clear hW; go_simp)
       clear hK K
       simp only [Act.put, List.setIfInBounds_toArray, List.set_cons_zero, List.set_cons_succ]
       with_reducible refine BigFrame.wpQuiet_want ?gd (fun K hK => ?_)
       case gd => kernel_rfl
       with_reducible refine quiet_mk (.int .i64 m) (fun W hW => ?_) (hK _ ?_)
       ·(unfold Oper.quietAt; clear hW; first | (go_simp; done) | (go_simp; have := HM.out; omega))
       clear hK K
       simp only [Act.put, List.setIfInBounds_toArray, List.set_cons_zero, List.set_cons_succ]
       with_reducible refine BigFrame.wpQuiet_want ?gd (fun K hK => ?_)
       case gd => kernel_rfl
       with_reducible refine quiet_mk (.pointer (some (ad.add (m * 6)))) (fun W hW => ?_) (hK _ ?_)
       ·(unfold Oper.quietAt; clear hW; go_simp)
       clear hK K
       simp only [Act.put, List.setIfInBounds_toArray, List.set_cons_zero, List.set_cons_succ]
       with_reducible refine BigFrame.wpQuiet_want ?gd (fun K hK => ?_)
       case gd => kernel_rfl
       with_reducible refine quiet_mk (.agg #[.int .i64 (rd_T40 l0 m).f0, .int .i64 (rd_T40 l0 m).f1, .int .i64 (rd_T40 l0 m).f2, .int .i64 (rd_T40 l0 m).f3, .int .i64 (rd_T40 l0 m).f4, .int .i64 (rd_T40 l0 m).f5]) (fun W hW => ?_) (hK _ ?_)
       ·(unfold Oper.quietAt; obtain ⟨z0, z1, z2, z3, z4, z5⟩ := HGM.out W hW; clear hW; go_simp)
       clear hK K
       simp only [Act.put, List.setIfInBounds_toArray, List.set_cons_zero, List.set_cons_succ]
       with_reducible refine BigFrame.wpQuiet_want ?gd (fun K hK => ?_)
       case gd => kernel_rfl
       with_reducible refine quiet_mk (.slice (some ad) l0.length c0) (fun W hW => ?_) (hK _ ?_)
       ·(unfold Oper.quietAt; clear hW; go_simp)
       clear hK K
       simp only [Act.put, List.setIfInBounds_toArray, List.set_cons_zero, List.set_cons_succ]
       with_reducible refine BigFrame.wpQuiet_want ?gd (fun K hK => ?_)
       case gd => kernel_rfl
       with_reducible refine quiet_mk (.int .i64 n) (fun W hW => ?_) (hK _ ?_)
       ·(unfold Oper.quietAt; clear hW; go_simp)
       clear hK K
       simp only [Act.put, List.setIfInBounds_toArray, List.set_cons_zero, List.set_cons_succ]
       with_reducible refine BigFrame.wpQuiet_want ?gd (fun K hK => ?_)
       case gd => kernel_rfl
       with_reducible refine quiet_mk (.pointer (some (ad.add (n * 6)))) (fun W hW => ?_) (hK _ ?_)
       ·(unfold Oper.quietAt; clear hW; go_simp)
       clear hK K
       simp only [Act.put, List.setIfInBounds_toArray, List.set_cons_zero, List.set_cons_succ]
       with_reducible refine BigFrame.wpQuiet_want ?gd (fun K hK => ?_)
       case gd => kernel_rfl
       with_reducible refine quiet_mk (.agg #[.int .i64 (rd_T40 l0 n).f0, .int .i64 (rd_T40 l0 n).f1, .int .i64 (rd_T40 l0 n).f2, .int .i64 (rd_T40 l0 n).f3, .int .i64 (rd_T40 l0 n).f4, .int .i64 (rd_T40 l0 n).f5]) (fun W hW => ?_) (hK _ ?_)
       ·(unfold Oper.quietAt; obtain ⟨z0, z1, z2, z3, z4, z5⟩ := HG.out W hW; clear hW; go_simp)
       clear hK K
       simp only [Act.put, List.setIfInBounds_toArray, List.set_cons_zero, List.set_cons_succ]
       with_reducible refine BigFrame.wpQuiet_want ?gd (fun K hK => ?_)
       case gd => kernel_rfl
       with_reducible refine quiet_mk (.bool true) (fun W hW => ?_) (hK _ ?_)
       ·(unfold Oper.quietAt; go_simp; refine (rbefore_calls (rd_T40 l0 m) (rd_T40 l0 n) _).mono ?_; rintro e w1 ⟨rfl, hb1⟩; exact ⟨by rw [HLS.out], below2 hW hb1⟩)
       clear hK K
       simp only [Act.put, List.setIfInBounds_toArray, List.set_cons_zero, List.set_cons_succ]
       with_reducible refine BigFrame.wpQuiet_want ?gd (fun K hK => ?_)
       case gd => kernel_rfl
       with_reducible refine quiet_mk (.bool false) (fun W hW => ?_) (hK _ ?_)
       ·(unfold Oper.quietAt; clear hW; go_simp)
       clear hK K
       simp only [Act.put, List.setIfInBounds_toArray, List.set_cons_zero, List.set_cons_succ]
       with_reducible refine BigFrame.wpQuiet_want ?gd (fun K hK => ?_)
       case gd => kernel_rfl
       with_reducible refine quiet_mk (.bool false) (fun W hW => ?_) (hK _ ?_)
       ·(unfold Oper.quietAt; clear hW; go_simp)
       clear hK K
       simp only [Act.put, List.setIfInBounds_toArray, List.set_cons_zero, List.set_cons_succ]
       with_reducible refine BigFrame.wpQuiet_want ?gd (fun K hK => ?_)
       case gd => kernel_rfl
       with_reducible refine quiet_mk (.bool false) (fun W hW => ?_) (hK _ ?_)
       ·(unfold Oper.quietAt; clear hW; go_simp)
       clear hK K
       simp only [Act.put, List.setIfInBounds_toArray, List.set_cons_zero, List.set_cons_succ]
       refine wpQuiet_nil ?_
       intro w2 hw2
       have HB2 := Aside0.mk (below2 HB.out hw2)
       clear HB hw2 HG HBC
       go_wp2
       go_loopw [4] (fun v4 w' => ∃ k : Nat, v4 = .int .i64 k ∧ k ≤ n ∧ Aside0 (∀ j : Nat, j < k → sameKey (rd_T40 l0 n) (rd_T40 l0 j) = false) ∧ Aside0 (Below w.heap.size w w')) (fun v4 _ => n - (intOf v4).toNat)
       case atStart => exact ⟨0, rfl, Nat.zero_le _, ⟨fun j hj => absurd hj (by omega)⟩, HB2⟩
       case round =>
        obtain ⟨k, rfl, hk, HK, HB3⟩ := hrel
        by_cases hlk : k < n
        ·have HLK := Aside0.mk hlk
         have hlk2 : k < l0.length := by have := HLT.out; omega
         have hdk : decide ((k : Int) < (n : Int)) = true := decide_eq_true (by omega)
         obtain ⟨ad2, e2, x0, x1, _, _, _, _⟩ := opAt_of (Kd.C_below HR.out HB3.out) k hlk2
         obtain ⟨ad3, e3, y0, y1, _, _, _, _⟩ := opAt_of (Kd.C_below HR.out HB3.out) n HLT.out
         cases e2
         cases e3
         have hkl : (k : Int) < (l0.length : Int) := by omega
         have hnl : (n : Int) < (l0.length : Int) := by have := HLT.out; omega
         have HB4 : ∀ q, Aside0 (Below w.heap.size w (wr.drewN q)) := fun q => ⟨pw_below_drewN HB3.out q⟩
         by_cases q0 : (rd_T40 l0 k).f0 = (rd_T40 l0 n).f0
         ·by_cases q1 : (rd_T40 l0 k).f1 = (rd_T40 l0 n).f1
          ·have b0 : ((rd_T40 l0 k).f0 == (rd_T40 l0 n).f0) = true := by simp [q0]
           have b1 : ((rd_T40 l0 k).f1 == (rd_T40 l0 n).f1) = true := by simp [q1]
           have HS : Aside0 (sameKey (rd_T40 l0 n) (rd_T40 l0 k) = true) := ⟨key_iff.2 ⟨q0.symm, q1.symm⟩⟩
           clear q0 q1
           go_wp2
           go_quiet (fail)
           go_wp2
           go_ret
           have hchk : chkD l0 = false := chkD_false HLT.out (opAt2 (List.any_eq_true.2 ⟨rd_T40 l0 k, by rw [rd_at40 l0 k (by have := HLT.out; have := HLK.out; omega)]; exact List.mem_take_iff_getElem.2 ⟨k, by have := HLT.out; have := HLK.out; omega, rfl⟩, HS.out⟩))
           rw [← HV.out, hchk]
           exact ⟨rfl, (HB4 _).out⟩
          ·have b0 : ((rd_T40 l0 k).f0 == (rd_T40 l0 n).f0) = true := by simp [q0]
           have b1 : ((rd_T40 l0 k).f1 == (rd_T40 l0 n).f1) = false := by simpa using q1
           have HS : Aside0 (sameKey (rd_T40 l0 n) (rd_T40 l0 k) = false) := ⟨by rw [← Bool.not_eq_true, key_iff]; exact fun h => q1 h.2.symm⟩
           clear q0 q1
           go_wp2
           go_quiet (fail)
           go_wp2
           go_roundw
           case rel => exact ⟨k + 1, by go_num, HLK.out, ⟨fun j hj => (Nat.lt_or_ge j k).elim (HK.out j) (fun h => (show j = k by omega) ▸ HS.out)⟩, HB4 _⟩
           case measure => have := HLK.out; simp [intOf]; omega
         ·have b0 : ((rd_T40 l0 k).f0 == (rd_T40 l0 n).f0) = false := by simpa using q0
          have HS : Aside0 (sameKey (rd_T40 l0 n) (rd_T40 l0 k) = false) := ⟨by rw [← Bool.not_eq_true, key_iff]; exact fun h => q0 h.1.symm⟩
          clear q0
          go_wp2
          go_quiet (fail)
          go_wp2
          go_roundw
          case rel => exact ⟨k + 1, by go_num, HLK.out, ⟨fun j hj => (Nat.lt_or_ge j k).elim (HK.out j) (fun h => (show j = k by omega) ▸ HS.out)⟩, HB4 _⟩
          case measure => have := HLK.out; simp [intOf]; omega
        ·have hdk : decide ((k : Int) < (n : Int)) = false := decide_eq_false (by omega)
         have hdk2 : decide (k < n) = false := decide_eq_false hlk
         have HKN : Aside0 (n ≤ k) := ⟨by omega⟩
         go_wp2
         go_roundw
         case rel =>
          refine ⟨n + 1, by go_num, HLT.out, ⟨fun j hj => ?_⟩, HB3⟩
          rcases Nat.lt_or_ge j n with h | h
          ·exact HN.out j h
          ·obtain rfl : j = n := by omega
           refine opAt6 HQ.out (any_false HLT.out (fun q hq => HK.out q (by have := HKN.out; omega))) HM.out (of_decide_eq_true HLS.out)
         case measure => have := HLT.out; simp [intOf]; omega
   ·have hdl : decide ((n : Int) < (l0.length : Int)) = false := decide_eq_false (by omega)
    have HLE : Aside0 (l0.length ≤ n) := ⟨by omega⟩
    go_wp2
    go_ret
    have hchk : chkD l0 = true := chkD_true E1.out HN.out HLE.out
    rw [← HV.out, hchk]
    exact ⟨rfl, HB.out⟩
 ·have d1 : decide ((256 : Int) < (l0.length : Int)) = true := decide_eq_true (by omega)
  have HL := Aside0.mk c1
  go_enter Try.func30, Try.ntmps30
  go_wp2
  go_ret
  have hchk : chkD l0 = false := by rw [chkD, decide_eq_false HL.out, Bool.false_and]
  rw [← HV.out, hchk]
  exact ⟨rfl, Below.refl _ _⟩
end Go.Proofs.Ytkclehmjkncmnaa.P
