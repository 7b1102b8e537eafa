/- The iterator of the longest spans of a set. -/
import Derived.Test.YtcemfklhbgnflaaG2
import Derived.RangeFuncFrom
import Derived.RangeFuncBox
import Derived.RangeFuncLeaves
import Derived.Shelf.Abstract
import Derived.OwnWalkIn
import Derived.TacticsInMore
import Derived.LoopNIn
import Derived.LoopIn
namespace Go.Proofs.Ytcemfklhbgnflaa.P
open Go.RowKit Go.Shelf Go.Proofs.YtcemfklhbgnflaaW.PrintWords Go.Proofs.YtcemfklhbgnflaaW.PrintLast Go.Proofs.YtcemfklhbgnflaaW.PrintMore
attribute [local go_sem] Oper.semAt_some

def runEnd (f : Nat → Bool) : Nat → Nat → Nat
  | 0, m => m
  | k + 1, m => if m < 1024 then (if f m then runEnd f k (m + 1) else m) else m
def spG (f : Nat → Bool) : Nat → Nat → List S31
  | 0, _ => []
  | k + 1, m => if m < 1024 then (if f m then ⟨m, runEnd f 1024 (m + 1)⟩ :: spG f k (runEnd f 1024 (m + 1) + 1) else spG f k (m + 1)) else []
def nrm (f : Nat → Bool) : List S31 := spG f 1025 0
theorem runEnd_ge (f : Nat → Bool) : ∀ k m, m ≤ runEnd f k m := by
  intro k
  induction k with
  | zero => exact fun m => Nat.le_refl m
  | succ k ih =>
    intro m
    unfold runEnd
    split
    · split
      · exact Nat.le_trans (Nat.le_succ m) (ih (m + 1))
      · exact Nat.le_refl _
    · exact Nat.le_refl _
theorem runEnd_le (f : Nat → Bool) : ∀ k m, m ≤ 1024 → runEnd f k m ≤ 1024 := by
  intro k
  induction k with
  | zero => exact fun m h => h
  | succ k ih =>
    intro m h
    unfold runEnd
    split
    · split
      · exact ih (m + 1) (by omega)
      · exact h
    · exact h
/-- More rounds than are wanted change nothing. -/
theorem runEnd_fuel (f : Nat → Bool) : ∀ k k' m, 1024 ≤ m + k → 1024 ≤ m + k' → runEnd f k m = runEnd f k' m := by
  intro k
  induction k with
  | zero =>
    intro k' m h _
    cases k' with
    | zero => rfl
    | succ k' => unfold runEnd; rw [if_neg (by omega)]
  | succ k ih =>
    intro k' m h h'
    cases k' with
    | zero => unfold runEnd; rw [if_neg (by omega)]
    | succ k' =>
      unfold runEnd
      split
      · split
        · exact ih k' (m + 1) (by omega) (by omega)
        · rfl
      · rfl
theorem runEnd_step (f : Nat → Bool) (k m : Nat) (h : m < 1024) (hf : f m = true) (hk : 1024 ≤ m + k) : runEnd f k m = runEnd f k (m + 1) := by
  cases k with
  | zero => omega
  | succ k =>
    rw [show runEnd f (k + 1) m = runEnd f k (m + 1) from by rw [runEnd, if_pos h, if_pos hf]]
    exact runEnd_fuel f k (k + 1) (m + 1) (by omega) (by omega)
theorem runEnd_stop (f : Nat → Bool) (k m : Nat) (h : m < 1024 → f m = false) : runEnd f k m = m := by
  cases k with
  | zero => rfl
  | succ k =>
    rw [runEnd]
    split
    · rename_i h1
      rw [h h1]
      simp
    · rfl
theorem spG_len (f : Nat → Bool) : ∀ k m, m ≤ 1025 → (spG f k m).length ≤ 1025 - m := by
  intro k
  induction k with
  | zero => intro m _; simp [spG]
  | succ k ih =>
    intro m hm
    rw [spG]
    split
    · split
      · have h1 := runEnd_ge f 1024 (m + 1)
        have h2 := runEnd_le f 1024 (m + 1) (by omega)
        have := ih (runEnd f 1024 (m + 1) + 1) (by omega)
        simp only [List.length_cons]
        omega
      · have := ih (m + 1) (by omega)
        omega
    · simp

/-- The days' block, and the box that the iterator has captured. -/
structure IterAt (W : World) (bx b : Nat) (f : Nat → Bool) : Prop where
  box : W.cell? ⟨bx, 0, none⟩ = some (.pointer (some ⟨b, 0, none⟩))
  days : DaysAt W b f
set_option maxRecDepth 100000 in
set_option maxHeartbeats 2000000 in
theorem spans1_in (F : Fence) (n : Nat) (h42 : F.fn 42) (hro : F.round = none) (hn : 1 ≤ n) (l bx b n₀ : Nat) (f : Nat → Bool) (J Jx : List S31 → World → Prop) (hbx : bx < n₀) (hb : b < n₀)
    (hY : ∀ pre x W, J pre W → pre.length < 1025 → YieldAt F (n - 1) Try.prog l #[.agg #[.int .i64 x.f0, .int .i64 x.f1]] W fun e W' =>
      (e = .returned (.bool true) ∧ J (pre ++ [x]) W' ∧ Below n₀ W W') ∨ (e = .returned (.bool false) ∧ Jx (pre ++ [x]) W'))
    (W : World) (hI : IterAt W bx b f) (h0 : J [] W) :
    CallsIn F n Try.prog 42 #[.func (.yield l) #[] #[], .pointer (some ⟨bx, 0, none⟩)] W fun e W' => (∃ v, e = .returned v) ∧ ((∃ ys, ys = nrm f ∧ J ys W') ∨ (∃ pre : List S31, True ∧ Jx pre W')) := by
  refine callsIn_of_wp Try.func42 rfl h42 ?_ hro
  simp only [Try.ntmps42, List.size_toArray, List.length_cons, List.length_nil, Nat.reduceAdd, Nat.reduceSub, Array.replicate_succ, Array.replicate_zero, List.push_toArray, List.append_toArray, List.nil_append, List.cons_append]
  have hu53 := Try.underlying53
  have hu31 := Try.underlying31
  have HY := Aside0.mk hY
  have H0 := Aside0.mk h0
  have HI := Aside0.mk hI
  clear hY h0 hI
  gi_wp2
  gi_loopw [3] (fun v3 wr => ∃ (m k : Nat) (pre : List S31), v3 = .int .i64 m ∧ m ≤ 1025 ∧ Aside0 (1025 ≤ m + k) ∧ Aside0 (pre ++ spG f k m = nrm f) ∧ Aside0 (pre.length ≤ m) ∧ Aside0 (IterAt wr bx b f) ∧ Aside0 (J pre wr)) (fun v3 _ => 1025 - (intOf v3).toNat)
  case atStart => exact ⟨0, 1025, [], rfl, by omega, ⟨by omega⟩, ⟨rfl⟩, ⟨Nat.le_refl _⟩, HI, H0⟩
  case round =>
    obtain ⟨m, k, pre, rfl, hm, HK, HE, HL, HI2, HJ⟩ := hrel
    obtain ⟨hcb, hcd⟩ := HI2.out
    by_cases hlt : m < 1024
    · have hcm := hcd.cell m hlt
      have hdm : decide ((m : Int) < 1024) = true := by simp; omega
      have HCD := Aside0.mk hcd
      clear hcd
      obtain ⟨k, rfl⟩ : ∃ q, k = q + 1 := ⟨k - 1, by have := HK.out; omega⟩
      cases hf : f m
      · have HN := Aside0.mk (show spG f (k + 1) m = spG f k (m + 1) by rw [spG, if_pos hlt, hf]; simp)
        rw [hf] at hcm
        clear hf
        gi_wp2
        go_roundw
        case rel => exact ⟨m + 1, k, pre, by go_num, by omega, ⟨by have := HK.out; omega⟩, ⟨by rw [← HN.out]; exact HE.out⟩, ⟨by have := HL.out; omega⟩, HI2, HJ⟩
        case measure => simp [intOf]; omega
      · have HN := Aside0.mk (show spG f (k + 1) m = ⟨m, runEnd f 1024 (m + 1)⟩ :: spG f k (runEnd f 1024 (m + 1) + 1) by rw [spG, if_pos hlt, hf]; simp)
        rw [hf] at hcm
        clear hf
        obtain ⟨wo, rfl⟩ : ∃ wo : World, wo = wr := ⟨_, rfl⟩
        gi_wp2
        gi_loopw [4] (fun v4 wr => ∃ t : Nat, v4 = .int .i64 t ∧ t ≤ 1024 ∧ m < t ∧ Aside0 (runEnd f 1024 t = runEnd f 1024 (m + 1)) ∧ wr = wo) (fun v4 _ => 1024 - (intOf v4).toNat)
        case atStart => exact ⟨m + 1, by go_num, by omega, by omega, ⟨rfl⟩, rfl⟩
        case round =>
          obtain ⟨t, rfl, ht, hmt, HR, rfl⟩ := hrel
          by_cases hlt2 : t < 1024
          · have hct := HCD.out.cell t hlt2
            cases hft : f t
            · rw [hft] at hct
              have HT : Aside0 (runEnd f 1024 (m + 1) = t) := ⟨by rw [← HR.out]; exact runEnd_stop f 1024 t (fun _ => hft)⟩
              clear hft
              obtain ⟨fn, tmps, assign, body, hy, hR⟩ := HY.out pre ⟨m, t⟩ wr HJ.out (by have := HL.out; omega)
              have HRR := Aside0.mk hR
              clear hR
              gi_wp2
              refine HRR.out.mono ?_
              rintro e W3 (⟨rfl, hJ3, hk3⟩ | ⟨rfl, hJx3⟩)
              · have HJ3 := Aside0.mk hJ3
                have HI3 : Aside0 (IterAt W3 bx b f) := ⟨(hk3.cell (p := ⟨bx, 0, none⟩) hbx).trans HI2.out.box, (hk3.block b hb).trans HCD.out⟩
                clear hJ3 hk3
                gi_wp2
                go_roundw
                case rel => exact ⟨t + 1, k, pre ++ [⟨m, t⟩], by go_num, by omega, ⟨by have := HK.out; omega⟩, ⟨by have := HE.out; rw [HN.out, HT.out] at this; simpa using this⟩, ⟨by have := HL.out; simp; omega⟩, HI3, HJ3⟩
                case measure => simp [intOf]; omega
              · have HX := Aside0.mk hJx3
                clear hJx3
                gi_wp2
                refine bodyPost_ret (results_none rfl _ _ _) rfl ?_
                exact ⟨⟨_, rfl⟩, .inr ⟨pre ++ [⟨m, t⟩], trivial, HX.out⟩⟩
            · rw [hft] at hct
              have HS := Aside0.mk (runEnd_step f 1024 t hlt2 hft (by omega))
              clear hft
              gi_wp2
              go_roundw
              case rel => exact ⟨t + 1, by go_num, by omega, by omega, ⟨by rw [← HR.out]; exact HS.out.symm⟩, trivial⟩
              case measure => simp [intOf]; omega
          · have HT : Aside0 (runEnd f 1024 (m + 1) = t) := ⟨by rw [← HR.out]; exact runEnd_stop f 1024 t (fun h => absurd h hlt2)⟩
            obtain ⟨fn, tmps, assign, body, hy, hR⟩ := HY.out pre ⟨m, t⟩ wr HJ.out (by have := HL.out; omega)
            have HRR := Aside0.mk hR
            clear hR
            gi_wp2
            refine HRR.out.mono ?_
            rintro e W3 (⟨rfl, hJ3, hk3⟩ | ⟨rfl, hJx3⟩)
            · have HJ3 := Aside0.mk hJ3
              have HI3 : Aside0 (IterAt W3 bx b f) := ⟨(hk3.cell (p := ⟨bx, 0, none⟩) hbx).trans HI2.out.box, (hk3.block b hb).trans HCD.out⟩
              clear hJ3 hk3
              gi_wp2
              go_roundw
              case rel => exact ⟨t + 1, k, pre ++ [⟨m, t⟩], by go_num, by omega, ⟨by have := HK.out; omega⟩, ⟨by have := HE.out; rw [HN.out, HT.out] at this; simpa using this⟩, ⟨by have := HL.out; simp; omega⟩, HI3, HJ3⟩
              case measure => simp [intOf]; omega
            · have HX := Aside0.mk hJx3
              clear hJx3
              gi_wp2
              refine bodyPost_ret (results_none rfl _ _ _) rfl ?_
              exact ⟨⟨_, rfl⟩, .inr ⟨pre ++ [⟨m, t⟩], trivial, HX.out⟩⟩
    · have HN : Aside0 (spG f k m = []) := ⟨by cases k with
        | zero => rfl
        | succ k => rw [spG, if_neg hlt]⟩
      gi_wp2
      go_end0
      exact ⟨⟨_, rfl⟩, .inl ⟨pre, by have := HE.out; rw [HN.out, List.append_nil] at this; exact this, HJ.out⟩⟩
theorem spans1_stops (F : Fence) (n : Nat) (h42 : F.fn 42) (hro : F.round = none) (hn : 1 ≤ n) (bx b n₀ : Nat) (f : Nat → Bool) (w : World) (hbx : bx < n₀) (hb : b < n₀) (hn₀ : n₀ ≤ w.heap.size) (hI : IterAt w bx b f) :
    SeqStopsK F n Try.prog 42 #[.pointer (some ⟨bx, 0, none⟩)] (fun x : S31 => #[.agg #[.int .i64 x.f0, .int .i64 x.f1]]) (Below n₀) (fun ys => ys = nrm f) (fun _ => True) 1025 w := fun l J Jx W hW _ _ hY h0 =>
  spans1_in F n h42 hro hn l bx b n₀ f J Jx hbx hb hY W ⟨(hW.cell (p := ⟨bx, 0, none⟩) (by show bx < _; omega)).trans hI.box, (hW.block b (by omega)).trans hI.days⟩ h0
theorem spans_calls (b : Nat) (w : World) : Calls Try.prog 40 #[.pointer (some ⟨b, 0, none⟩)] w fun e w' => e = .returned (.func (.func 42) #[] #[.pointer (some ⟨w.heap.size, 0, none⟩)]) ∧ w' = w.alloc (.cells #[.pointer (some ⟨b, 0, none⟩)] 50) := by
  go_enter Try.func40, Try.ntmps40
  go_wp2
  go_ret
  exact ⟨rfl, rfl⟩

end Go.Proofs.Ytcemfklhbgnflaa.P
