/- The iterator over pairs. -/
import Derived.Test.YtfbcjeknibfjcaaG4
import Derived.Test.YtfbcjeknibfjcaaR
namespace Go.Proofs.Ytfbcjeknibfjcaa.P
open Go.RowKit Go.Shelf Go.Proofs.YtfbcjeknibfjcaaR Go.Proofs.YtfbcjeknibfjcaaW.PrintWords Go.Proofs.YtfbcjeknibfjcaaW.PrintLast Go.Proofs.YtfbcjeknibfjcaaW.PrintMore
set_option linter.unusedVariables false
attribute [local go_sem] Oper.semAt_some

def rowP (m a b : Nat) : List (Nat × Nat) := (List.range' b (m - b)).map fun j => (a, j)
def rowsP (m a : Nat) : List (Nat × Nat) := (List.range' a (m - a)).flatMap fun i => rowP m i (i + 1)
def pairsL (m : Nat) : List (Nat × Nat) := rowsP m 0
theorem rowP_lt {m a b : Nat} (h : b < m) : rowP m a b = (a, b) :: rowP m a (b + 1) := by
  rw [rowP, show m - b = (m - (b + 1)) + 1 by omega, List.range'_succ]
  rfl
theorem rowP_ge {m a b : Nat} (h : m ≤ b) : rowP m a b = [] := by
  rw [rowP, show m - b = 0 by omega]
  rfl
theorem rowsP_lt {m a : Nat} (h : a < m) : rowsP m a = rowP m a (a + 1) ++ rowsP m (a + 1) := by
  rw [rowsP, show m - a = (m - (a + 1)) + 1 by omega, List.range'_succ, List.flatMap_cons]
  rfl
theorem rowsP_ge {m a : Nat} (h : m ≤ a) : rowsP m a = [] := by
  rw [rowsP, show m - a = 0 by omega]
  rfl
theorem pairs_mem {m i j : Nat} (h : (i, j) ∈ pairsL m) : i < j ∧ j < m := by
  simp only [pairsL, rowsP, rowP, List.mem_flatMap, List.mem_map, List.mem_range'_1, Prod.mk.injEq] at h
  obtain ⟨a, h1, b, h2, rfl, rfl⟩ := h
  omega
set_option maxRecDepth 100000 in
set_option maxHeartbeats 2000000 in
theorem pairs1_in (F : Fence) (n : Nat) (h46 : F.fn 46) (hro : F.round = none) (hn : 1 ≤ n) (l bx m n₀ : Nat) (hm : m ≤ 9223372036854775807) (J Jx : List (Nat × Nat) → World → Prop) (hbx : bx < n₀)
    (hY : ∀ pre (i j : Nat) rest W, J pre W → pre ++ (i, j) :: rest = pairsL m → YieldAt F (n - 1) Try.prog l #[.int .i64 i, .int .i64 j] W fun e W' =>
      (e = .returned (.bool true) ∧ J (pre ++ [(i, j)]) W' ∧ Below n₀ W W') ∨ (e = .returned (.bool false) ∧ Jx (pre ++ [(i, j)]) W'))
    (W : World) (hI : W.cell? ⟨bx, 0, none⟩ = some (.int .i64 m)) (h0 : J [] W) :
    CallsIn F n Try.prog 46 #[.func (.yield l) #[] #[], .pointer (some ⟨bx, 0, none⟩)] W fun e W' => (∃ v, e = .returned v) ∧ (J (pairsL m) W' ∨ (∃ pre, Jx pre W')) := by
  refine callsIn_of_wp Try.func46 rfl h46 ?_ hro
  simp only [Try.ntmps46, List.size_toArray, List.length_cons, List.length_nil, Nat.reduceAdd, Nat.reduceSub, Array.replicate_succ, Array.replicate_zero, List.push_toArray, List.append_toArray, List.nil_append, List.cons_append]
  have HY := Aside0.mk hY
  have H0 := Aside0.mk h0
  have HI := Aside0.mk hI
  clear hY h0
  gi_wp2
  clear hI
  gi_loopw [6] (fun v6 wr => ∃ (a : Nat) (pre : List (Nat × Nat)), v6 = .int .i64 a ∧ a ≤ m ∧ Aside0 (pre ++ rowsP m a = pairsL m) ∧ Aside0 (wr.cell? ⟨bx, 0, none⟩ = some (.int .i64 m)) ∧ Aside0 (J pre wr)) (fun v6 _ => m - (intOf v6).toNat)
  case atStart => exact ⟨0, [], rfl, by omega, ⟨rfl⟩, HI, H0⟩
  case round =>
    obtain ⟨a, pre, rfl, ha, HE, HI2, HJ⟩ := hrel
    by_cases hlt : a < m
    · have HN : Aside0 (pre ++ (rowP m a (a + 1) ++ rowsP m (a + 1)) = pairsL m) := ⟨by rw [← rowsP_lt hlt]; exact HE.out⟩
      clear HE
      have hdm : decide ((a : Int) < (m : Int)) = true := by simp; omega
      obtain ⟨wo, hwo⟩ : ∃ wo : World, wo = wr := ⟨_, rfl⟩
      subst hwo
      gi_wp2
      gi_loopw [4] (fun v4 wr => ∃ (b : Nat) (pre : List (Nat × Nat)), v4 = .int .i64 b ∧ b ≤ m ∧ a < b ∧ Aside0 (pre ++ (rowP m a b ++ rowsP m (a + 1)) = pairsL m) ∧ Aside0 (wr.cell? ⟨bx, 0, none⟩ = some (.int .i64 m)) ∧ Aside0 (J pre wr)) (fun v4 _ => m - (intOf v4).toNat)
      case atStart => exact ⟨a + 1, pre, by go_num, by omega, by omega, HN, HI2, HJ⟩
      case round =>
        obtain ⟨b, pre2, rfl, hb, hab, HE2, HI3, HJ2⟩ := hrel
        have hcm := HI3.out
        by_cases hlt2 : b < m
        · have HN2 : Aside0 (pre2 ++ (a, b) :: (rowP m a (b + 1) ++ rowsP m (a + 1)) = pairsL m) := ⟨by rw [← List.cons_append, ← rowP_lt hlt2]; exact HE2.out⟩
          clear HE2
          have hdb : decide ((b : Int) < (m : Int)) = true := by simp; omega
          obtain ⟨fn, tmps, assign, body, hy, hR⟩ := HY.out pre2 a b _ wr HJ2.out HN2.out
          have HRR := Aside0.mk hR
          clear hR
          gi_wp2
          refine HRR.out.mono ?_
          rintro e W3 (⟨rfl, hJ3, hk3⟩ | ⟨rfl, hJx3⟩)
          · have HJ3 := Aside0.mk hJ3
            have HI4 := Aside0.mk ((hk3.cell (p := ⟨bx, 0, none⟩) hbx).trans HI3.out)
            clear hJ3 hk3
            gi_wp2
            go_roundw
            case rel => exact ⟨b + 1, pre2 ++ [(a, b)], by go_num, by omega, by omega, ⟨by simpa using HN2.out⟩, HI4, HJ3⟩
            case measure => simp [intOf]; omega
          · have HX := Aside0.mk hJx3
            clear hJx3
            gi_wp2
            refine bodyPost_ret (results_none rfl _ _ _) rfl ?_
            exact ⟨⟨_, rfl⟩, .inr ⟨_, HX.out⟩⟩
        · have HN2 : Aside0 (pre2 ++ rowsP m (a + 1) = pairsL m) := ⟨by have := HE2.out; rwa [rowP_ge (by omega), List.nil_append] at this⟩
          clear HE2
          have hdb : decide ((b : Int) < (m : Int)) = false := decide_eq_false (by omega)
          gi_wp2
          go_roundw
          case rel => exact ⟨a + 1, pre2, by go_num, by omega, HN2, HI3, HJ2⟩
          case measure => simp [intOf]; omega
    · have HN : Aside0 (pre = pairsL m) := ⟨by have := HE.out; rwa [rowsP_ge (by omega), List.append_nil] at this⟩
      have hdm : decide ((a : Int) < (m : Int)) = false := decide_eq_false (by omega)
      gi_wp2
      go_end0
      exact ⟨⟨_, rfl⟩, .inl (HN.out ▸ HJ.out)⟩
end Go.Proofs.Ytfbcjeknibfjcaa.P
