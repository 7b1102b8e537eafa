-- printed by gprint.py (a program of this seat over the kit's print.py): Lean checks it
import Derived.Test.YtcemfklhbgnflaaP0
import Derived.Test.YtcemfklhbgnflaaP2
import Derived.Test.YtcemfklhbgnflaaG
import Derived.Test.YtcemfklhbgnflaaH
namespace Go.Proofs.Ytcemfklhbgnflaa.P
open Go.RowKit Go.Proofs.YtcemfklhbgnflaaW.PrintWords Go.Proofs.YtcemfklhbgnflaaW.PrintLast Go.Proofs.YtcemfklhbgnflaaW.PrintMore
attribute [local go_sem] max2_int min2_int max_two min_two max_three min_three max_four min_four   -- for this text's walks alone
set_option linter.unusedVariables false
set_option linter.unusedSimpArgs false

/-! ### testamurlaw03_sane: function 10 -/
def testamurlaw03_sane.f (k : Nat)  : Option (Bool) := (testamurlaw03_list.f k (([0, 1024] : List Int))).bind fun t121 => ((testamurlaw03_list.f k (([10, 20, 15, 30] : List Int))).bind fun t127 => ((spans_Normal.f t127).bind fun t130 => ((testamurlaw03_list.f k (([10, 30] : List Int))).bind fun t136 => ((testamurref03_Same.f k t130 t136).bind fun t139 => (if t139 = true then ((testamurlaw03_list.f k (([(-5), 2000] : List Int))).bind fun t143 => ((spans_Normal.f t143).bind fun t146 => ((testamurref03_Same.f k t146 t121).bind fun t149 => (if t149 = true then ((testamurlaw03_list.f k (([5, 5] : List Int))).bind fun t153 => ((spans_Normal.f t153).bind fun t156 => (if (t156.length : Int) = 0 then ((testamurlaw03_list.f k (([0, 10] : List Int))).bind fun t162 => ((spans_Minus.f t121 t162).bind fun t165 => ((testamurlaw03_list.f k (([10, 1024] : List Int))).bind fun t171 => ((testamurref03_Same.f k t165 t171).bind fun t174 => (if t174 = true then ((testamurlaw03_list.f k (([3, 4] : List Int))).bind fun t178 => ((testamurlaw03_list.f k (([4, 5] : List Int))).bind fun t184 => ((spans_Union.f t178 t184).bind fun t187 => ((testamurlaw03_list.f k (([3, 5] : List Int))).bind fun t193 => ((testamurref03_Same.f k t187 t193).bind fun t196 => (if t196 = true then ((testamurlaw03_list.f k (([3, 9] : List Int))).bind fun t200 => ((testamurlaw03_list.f k (([5, 12] : List Int))).bind fun t206 => ((spans_Meet.f t200 t206).bind fun t209 => ((testamurlaw03_list.f k (([5, 9] : List Int))).bind fun t215 => ((testamurref03_Same.f k t209 t215).bind fun t218 => (if t218 = true then ((testamurlaw03_list.f k (([0, 10, 10, 20] : List Int))).bind fun t222 => ((spans_Covers.f t222 5 15).bind fun t225 => (if t225 = true then ((spans_Covers.f ([] : List (S31)) 7 7).bind fun t226 => (if t226 = true then ((spans_Covers.f t121 1023 1025).bind fun t227 => (if t227 = true then (none) else ((spans_Has.f t121 1023).bind fun t228 => (if t228 = true then ((spans_Has.f t121 1024).bind fun t229 => (if t229 = true then (none) else ((testamurlaw03_list.f k (([0, 0] : List Int))).bind fun t233 => ((spans_Check.f t233).bind fun t236 => (if t236 = 30 then ((spans_Check.f t121).bind fun t237 => (some (t237 == 0))) else (none)))))) else (none))))) else (none))) else (none)))) else (none))))))) else (none))))))) else (none)))))) else (none)))) else (none))))) else (none))))))
theorem testamurlaw03_sane.mono : ∀ k, LeO (testamurlaw03_sane.f k ) (testamurlaw03_sane.f (k + 1) ) := by
  intro  k
  unfold testamurlaw03_sane.f
  repeat' first
      | (with_reducible exact testamurlaw03_list.mono _ _)
      | (with_reducible exact testamurref03_Same.mono _ _ _)
      | (with_reducible exact LeO.refl _)
      | (with_reducible exact LeO.none _)
      | (with_reducible refine LeO.ite ?_ ?_)
      | (with_reducible refine LeO.bind ?_ (fun _ => ?_))
      | exact testamurlaw03_list.mono _ _
      | exact testamurref03_Same.mono _ _ _
      | exact LeO.none _
      | refine LeO.ite ?_ ?_
      | refine LeO.bind ?_ (fun _ => ?_)
set_option maxHeartbeats 8000000 in
set_option maxRecDepth 100000 in
theorem testamurlaw03_sane.calls (k : Nat)  (r : Bool) (w : World) (h : testamurlaw03_sane.f k  = some r) :
    Calls Try.prog 10 #[] w fun e w' => e = .returned (.bool r) ∧ Below w.heap.size w w' := by
  have hu31 := Try.underlying31
  have HB := Aside0.mk (Below.refl w.heap.size w)
  have H : ((testamurlaw03_list.f k (([0, 1024] : List Int))).bind fun t121 => ((testamurlaw03_list.f k (([10, 20, 15, 30] : List Int))).bind fun t127 => ((spans_Normal.f t127).bind fun t130 => ((testamurlaw03_list.f k (([10, 30] : List Int))).bind fun t136 => ((testamurref03_Same.f k t130 t136).bind fun t139 => (if t139 = true then ((testamurlaw03_list.f k (([(-5), 2000] : List Int))).bind fun t143 => ((spans_Normal.f t143).bind fun t146 => ((testamurref03_Same.f k t146 t121).bind fun t149 => (if t149 = true then ((testamurlaw03_list.f k (([5, 5] : List Int))).bind fun t153 => ((spans_Normal.f t153).bind fun t156 => (if (t156.length : Int) = 0 then ((testamurlaw03_list.f k (([0, 10] : List Int))).bind fun t162 => ((spans_Minus.f t121 t162).bind fun t165 => ((testamurlaw03_list.f k (([10, 1024] : List Int))).bind fun t171 => ((testamurref03_Same.f k t165 t171).bind fun t174 => (if t174 = true then ((testamurlaw03_list.f k (([3, 4] : List Int))).bind fun t178 => ((testamurlaw03_list.f k (([4, 5] : List Int))).bind fun t184 => ((spans_Union.f t178 t184).bind fun t187 => ((testamurlaw03_list.f k (([3, 5] : List Int))).bind fun t193 => ((testamurref03_Same.f k t187 t193).bind fun t196 => (if t196 = true then ((testamurlaw03_list.f k (([3, 9] : List Int))).bind fun t200 => ((testamurlaw03_list.f k (([5, 12] : List Int))).bind fun t206 => ((spans_Meet.f t200 t206).bind fun t209 => ((testamurlaw03_list.f k (([5, 9] : List Int))).bind fun t215 => ((testamurref03_Same.f k t209 t215).bind fun t218 => (if t218 = true then ((testamurlaw03_list.f k (([0, 10, 10, 20] : List Int))).bind fun t222 => ((spans_Covers.f t222 5 15).bind fun t225 => (if t225 = true then ((spans_Covers.f ([] : List (S31)) 7 7).bind fun t226 => (if t226 = true then ((spans_Covers.f t121 1023 1025).bind fun t227 => (if t227 = true then (none) else ((spans_Has.f t121 1023).bind fun t228 => (if t228 = true then ((spans_Has.f t121 1024).bind fun t229 => (if t229 = true then (none) else ((testamurlaw03_list.f k (([0, 0] : List Int))).bind fun t233 => ((spans_Check.f t233).bind fun t236 => (if t236 = 30 then ((spans_Check.f t121).bind fun t237 => (some (t237 == 0))) else (none)))))) else (none))))) else (none))) else (none)))) else (none))))))) else (none))))))) else (none)))))) else (none)))) else (none))))) else (none))))))) = some r := h
  clear h
  obtain ⟨y118, hy118⟩ : ∃ y_ : List Int, y_ = (([0, 1024] : List Int)) := ⟨_, rfl⟩
  replace H : ((testamurlaw03_list.f k y118).bind fun t121 => ((testamurlaw03_list.f k (([10, 20, 15, 30] : List Int))).bind fun t127 => ((spans_Normal.f t127).bind fun t130 => ((testamurlaw03_list.f k (([10, 30] : List Int))).bind fun t136 => ((testamurref03_Same.f k t130 t136).bind fun t139 => (if t139 = true then ((testamurlaw03_list.f k (([(-5), 2000] : List Int))).bind fun t143 => ((spans_Normal.f t143).bind fun t146 => ((testamurref03_Same.f k t146 t121).bind fun t149 => (if t149 = true then ((testamurlaw03_list.f k (([5, 5] : List Int))).bind fun t153 => ((spans_Normal.f t153).bind fun t156 => (if (t156.length : Int) = 0 then ((testamurlaw03_list.f k (([0, 10] : List Int))).bind fun t162 => ((spans_Minus.f t121 t162).bind fun t165 => ((testamurlaw03_list.f k (([10, 1024] : List Int))).bind fun t171 => ((testamurref03_Same.f k t165 t171).bind fun t174 => (if t174 = true then ((testamurlaw03_list.f k (([3, 4] : List Int))).bind fun t178 => ((testamurlaw03_list.f k (([4, 5] : List Int))).bind fun t184 => ((spans_Union.f t178 t184).bind fun t187 => ((testamurlaw03_list.f k (([3, 5] : List Int))).bind fun t193 => ((testamurref03_Same.f k t187 t193).bind fun t196 => (if t196 = true then ((testamurlaw03_list.f k (([3, 9] : List Int))).bind fun t200 => ((testamurlaw03_list.f k (([5, 12] : List Int))).bind fun t206 => ((spans_Meet.f t200 t206).bind fun t209 => ((testamurlaw03_list.f k (([5, 9] : List Int))).bind fun t215 => ((testamurref03_Same.f k t209 t215).bind fun t218 => (if t218 = true then ((testamurlaw03_list.f k (([0, 10, 10, 20] : List Int))).bind fun t222 => ((spans_Covers.f t222 5 15).bind fun t225 => (if t225 = true then ((spans_Covers.f ([] : List (S31)) 7 7).bind fun t226 => (if t226 = true then ((spans_Covers.f t121 1023 1025).bind fun t227 => (if t227 = true then (none) else ((spans_Has.f t121 1023).bind fun t228 => (if t228 = true then ((spans_Has.f t121 1024).bind fun t229 => (if t229 = true then (none) else ((testamurlaw03_list.f k (([0, 0] : List Int))).bind fun t233 => ((spans_Check.f t233).bind fun t236 => (if t236 = 30 then ((spans_Check.f t121).bind fun t237 => (some (t237 == 0))) else (none)))))) else (none))))) else (none))) else (none)))) else (none))))))) else (none))))))) else (none)))))) else (none)))) else (none))))) else (none))))))) = some r := by first | (rw [hy118]; with_reducible exact H) | (have H2_ := (Option.bind_some _ _).symm.trans H; rw [hy118]; with_reducible exact H2_) | (have H2_ := (Option.bind_some _ _).symm.trans H; with_reducible exact H2_) | with_reducible exact H | (rw [hy118]; exact H) | exact H
  have Ny118 := Aside0.mk hy118
  clear hy118
  replace H := Option.bind_eq_some_iff.mp H
  obtain ⟨t121, A10, H⟩ := H
  replace H : ((testamurlaw03_list.f k (([10, 20, 15, 30] : List Int))).bind fun t127 => ((spans_Normal.f t127).bind fun t130 => ((testamurlaw03_list.f k (([10, 30] : List Int))).bind fun t136 => ((testamurref03_Same.f k t130 t136).bind fun t139 => (if t139 = true then ((testamurlaw03_list.f k (([(-5), 2000] : List Int))).bind fun t143 => ((spans_Normal.f t143).bind fun t146 => ((testamurref03_Same.f k t146 t121).bind fun t149 => (if t149 = true then ((testamurlaw03_list.f k (([5, 5] : List Int))).bind fun t153 => ((spans_Normal.f t153).bind fun t156 => (if (t156.length : Int) = 0 then ((testamurlaw03_list.f k (([0, 10] : List Int))).bind fun t162 => ((spans_Minus.f t121 t162).bind fun t165 => ((testamurlaw03_list.f k (([10, 1024] : List Int))).bind fun t171 => ((testamurref03_Same.f k t165 t171).bind fun t174 => (if t174 = true then ((testamurlaw03_list.f k (([3, 4] : List Int))).bind fun t178 => ((testamurlaw03_list.f k (([4, 5] : List Int))).bind fun t184 => ((spans_Union.f t178 t184).bind fun t187 => ((testamurlaw03_list.f k (([3, 5] : List Int))).bind fun t193 => ((testamurref03_Same.f k t187 t193).bind fun t196 => (if t196 = true then ((testamurlaw03_list.f k (([3, 9] : List Int))).bind fun t200 => ((testamurlaw03_list.f k (([5, 12] : List Int))).bind fun t206 => ((spans_Meet.f t200 t206).bind fun t209 => ((testamurlaw03_list.f k (([5, 9] : List Int))).bind fun t215 => ((testamurref03_Same.f k t209 t215).bind fun t218 => (if t218 = true then ((testamurlaw03_list.f k (([0, 10, 10, 20] : List Int))).bind fun t222 => ((spans_Covers.f t222 5 15).bind fun t225 => (if t225 = true then ((spans_Covers.f ([] : List (S31)) 7 7).bind fun t226 => (if t226 = true then ((spans_Covers.f t121 1023 1025).bind fun t227 => (if t227 = true then (none) else ((spans_Has.f t121 1023).bind fun t228 => (if t228 = true then ((spans_Has.f t121 1024).bind fun t229 => (if t229 = true then (none) else ((testamurlaw03_list.f k (([0, 0] : List Int))).bind fun t233 => ((spans_Check.f t233).bind fun t236 => (if t236 = 30 then ((spans_Check.f t121).bind fun t237 => (some (t237 == 0))) else (none)))))) else (none))))) else (none))) else (none)))) else (none))))))) else (none))))))) else (none)))))) else (none)))) else (none))))) else (none)))))) = some r := H
  have A1 := Aside0.mk A10
  clear A10
  obtain ⟨y124, hy124⟩ : ∃ y_ : List Int, y_ = (([10, 20, 15, 30] : List Int)) := ⟨_, rfl⟩
  replace H : ((testamurlaw03_list.f k y124).bind fun t127 => ((spans_Normal.f t127).bind fun t130 => ((testamurlaw03_list.f k (([10, 30] : List Int))).bind fun t136 => ((testamurref03_Same.f k t130 t136).bind fun t139 => (if t139 = true then ((testamurlaw03_list.f k (([(-5), 2000] : List Int))).bind fun t143 => ((spans_Normal.f t143).bind fun t146 => ((testamurref03_Same.f k t146 t121).bind fun t149 => (if t149 = true then ((testamurlaw03_list.f k (([5, 5] : List Int))).bind fun t153 => ((spans_Normal.f t153).bind fun t156 => (if (t156.length : Int) = 0 then ((testamurlaw03_list.f k (([0, 10] : List Int))).bind fun t162 => ((spans_Minus.f t121 t162).bind fun t165 => ((testamurlaw03_list.f k (([10, 1024] : List Int))).bind fun t171 => ((testamurref03_Same.f k t165 t171).bind fun t174 => (if t174 = true then ((testamurlaw03_list.f k (([3, 4] : List Int))).bind fun t178 => ((testamurlaw03_list.f k (([4, 5] : List Int))).bind fun t184 => ((spans_Union.f t178 t184).bind fun t187 => ((testamurlaw03_list.f k (([3, 5] : List Int))).bind fun t193 => ((testamurref03_Same.f k t187 t193).bind fun t196 => (if t196 = true then ((testamurlaw03_list.f k (([3, 9] : List Int))).bind fun t200 => ((testamurlaw03_list.f k (([5, 12] : List Int))).bind fun t206 => ((spans_Meet.f t200 t206).bind fun t209 => ((testamurlaw03_list.f k (([5, 9] : List Int))).bind fun t215 => ((testamurref03_Same.f k t209 t215).bind fun t218 => (if t218 = true then ((testamurlaw03_list.f k (([0, 10, 10, 20] : List Int))).bind fun t222 => ((spans_Covers.f t222 5 15).bind fun t225 => (if t225 = true then ((spans_Covers.f ([] : List (S31)) 7 7).bind fun t226 => (if t226 = true then ((spans_Covers.f t121 1023 1025).bind fun t227 => (if t227 = true then (none) else ((spans_Has.f t121 1023).bind fun t228 => (if t228 = true then ((spans_Has.f t121 1024).bind fun t229 => (if t229 = true then (none) else ((testamurlaw03_list.f k (([0, 0] : List Int))).bind fun t233 => ((spans_Check.f t233).bind fun t236 => (if t236 = 30 then ((spans_Check.f t121).bind fun t237 => (some (t237 == 0))) else (none)))))) else (none))))) else (none))) else (none)))) else (none))))))) else (none))))))) else (none)))))) else (none)))) else (none))))) else (none)))))) = some r := by first | (rw [hy124]; with_reducible exact H) | (have H2_ := (Option.bind_some _ _).symm.trans H; rw [hy124]; with_reducible exact H2_) | (have H2_ := (Option.bind_some _ _).symm.trans H; with_reducible exact H2_) | with_reducible exact H | (rw [hy124]; exact H) | exact H
  have Ny124 := Aside0.mk hy124
  clear hy124
  replace H := Option.bind_eq_some_iff.mp H
  obtain ⟨t127, A20, H⟩ := H
  replace H : ((spans_Normal.f t127).bind fun t130 => ((testamurlaw03_list.f k (([10, 30] : List Int))).bind fun t136 => ((testamurref03_Same.f k t130 t136).bind fun t139 => (if t139 = true then ((testamurlaw03_list.f k (([(-5), 2000] : List Int))).bind fun t143 => ((spans_Normal.f t143).bind fun t146 => ((testamurref03_Same.f k t146 t121).bind fun t149 => (if t149 = true then ((testamurlaw03_list.f k (([5, 5] : List Int))).bind fun t153 => ((spans_Normal.f t153).bind fun t156 => (if (t156.length : Int) = 0 then ((testamurlaw03_list.f k (([0, 10] : List Int))).bind fun t162 => ((spans_Minus.f t121 t162).bind fun t165 => ((testamurlaw03_list.f k (([10, 1024] : List Int))).bind fun t171 => ((testamurref03_Same.f k t165 t171).bind fun t174 => (if t174 = true then ((testamurlaw03_list.f k (([3, 4] : List Int))).bind fun t178 => ((testamurlaw03_list.f k (([4, 5] : List Int))).bind fun t184 => ((spans_Union.f t178 t184).bind fun t187 => ((testamurlaw03_list.f k (([3, 5] : List Int))).bind fun t193 => ((testamurref03_Same.f k t187 t193).bind fun t196 => (if t196 = true then ((testamurlaw03_list.f k (([3, 9] : List Int))).bind fun t200 => ((testamurlaw03_list.f k (([5, 12] : List Int))).bind fun t206 => ((spans_Meet.f t200 t206).bind fun t209 => ((testamurlaw03_list.f k (([5, 9] : List Int))).bind fun t215 => ((testamurref03_Same.f k t209 t215).bind fun t218 => (if t218 = true then ((testamurlaw03_list.f k (([0, 10, 10, 20] : List Int))).bind fun t222 => ((spans_Covers.f t222 5 15).bind fun t225 => (if t225 = true then ((spans_Covers.f ([] : List (S31)) 7 7).bind fun t226 => (if t226 = true then ((spans_Covers.f t121 1023 1025).bind fun t227 => (if t227 = true then (none) else ((spans_Has.f t121 1023).bind fun t228 => (if t228 = true then ((spans_Has.f t121 1024).bind fun t229 => (if t229 = true then (none) else ((testamurlaw03_list.f k (([0, 0] : List Int))).bind fun t233 => ((spans_Check.f t233).bind fun t236 => (if t236 = 30 then ((spans_Check.f t121).bind fun t237 => (some (t237 == 0))) else (none)))))) else (none))))) else (none))) else (none)))) else (none))))))) else (none))))))) else (none)))))) else (none)))) else (none))))) else (none))))) = some r := H
  have A2 := Aside0.mk A20
  clear A20
  replace H := Option.bind_eq_some_iff.mp H
  obtain ⟨t130, A30, H⟩ := H
  replace H : ((testamurlaw03_list.f k (([10, 30] : List Int))).bind fun t136 => ((testamurref03_Same.f k t130 t136).bind fun t139 => (if t139 = true then ((testamurlaw03_list.f k (([(-5), 2000] : List Int))).bind fun t143 => ((spans_Normal.f t143).bind fun t146 => ((testamurref03_Same.f k t146 t121).bind fun t149 => (if t149 = true then ((testamurlaw03_list.f k (([5, 5] : List Int))).bind fun t153 => ((spans_Normal.f t153).bind fun t156 => (if (t156.length : Int) = 0 then ((testamurlaw03_list.f k (([0, 10] : List Int))).bind fun t162 => ((spans_Minus.f t121 t162).bind fun t165 => ((testamurlaw03_list.f k (([10, 1024] : List Int))).bind fun t171 => ((testamurref03_Same.f k t165 t171).bind fun t174 => (if t174 = true then ((testamurlaw03_list.f k (([3, 4] : List Int))).bind fun t178 => ((testamurlaw03_list.f k (([4, 5] : List Int))).bind fun t184 => ((spans_Union.f t178 t184).bind fun t187 => ((testamurlaw03_list.f k (([3, 5] : List Int))).bind fun t193 => ((testamurref03_Same.f k t187 t193).bind fun t196 => (if t196 = true then ((testamurlaw03_list.f k (([3, 9] : List Int))).bind fun t200 => ((testamurlaw03_list.f k (([5, 12] : List Int))).bind fun t206 => ((spans_Meet.f t200 t206).bind fun t209 => ((testamurlaw03_list.f k (([5, 9] : List Int))).bind fun t215 => ((testamurref03_Same.f k t209 t215).bind fun t218 => (if t218 = true then ((testamurlaw03_list.f k (([0, 10, 10, 20] : List Int))).bind fun t222 => ((spans_Covers.f t222 5 15).bind fun t225 => (if t225 = true then ((spans_Covers.f ([] : List (S31)) 7 7).bind fun t226 => (if t226 = true then ((spans_Covers.f t121 1023 1025).bind fun t227 => (if t227 = true then (none) else ((spans_Has.f t121 1023).bind fun t228 => (if t228 = true then ((spans_Has.f t121 1024).bind fun t229 => (if t229 = true then (none) else ((testamurlaw03_list.f k (([0, 0] : List Int))).bind fun t233 => ((spans_Check.f t233).bind fun t236 => (if t236 = 30 then ((spans_Check.f t121).bind fun t237 => (some (t237 == 0))) else (none)))))) else (none))))) else (none))) else (none)))) else (none))))))) else (none))))))) else (none)))))) else (none)))) else (none))))) else (none)))) = some r := H
  have A3 := Aside0.mk A30
  clear A30
  obtain ⟨y133, hy133⟩ : ∃ y_ : List Int, y_ = (([10, 30] : List Int)) := ⟨_, rfl⟩
  replace H : ((testamurlaw03_list.f k y133).bind fun t136 => ((testamurref03_Same.f k t130 t136).bind fun t139 => (if t139 = true then ((testamurlaw03_list.f k (([(-5), 2000] : List Int))).bind fun t143 => ((spans_Normal.f t143).bind fun t146 => ((testamurref03_Same.f k t146 t121).bind fun t149 => (if t149 = true then ((testamurlaw03_list.f k (([5, 5] : List Int))).bind fun t153 => ((spans_Normal.f t153).bind fun t156 => (if (t156.length : Int) = 0 then ((testamurlaw03_list.f k (([0, 10] : List Int))).bind fun t162 => ((spans_Minus.f t121 t162).bind fun t165 => ((testamurlaw03_list.f k (([10, 1024] : List Int))).bind fun t171 => ((testamurref03_Same.f k t165 t171).bind fun t174 => (if t174 = true then ((testamurlaw03_list.f k (([3, 4] : List Int))).bind fun t178 => ((testamurlaw03_list.f k (([4, 5] : List Int))).bind fun t184 => ((spans_Union.f t178 t184).bind fun t187 => ((testamurlaw03_list.f k (([3, 5] : List Int))).bind fun t193 => ((testamurref03_Same.f k t187 t193).bind fun t196 => (if t196 = true then ((testamurlaw03_list.f k (([3, 9] : List Int))).bind fun t200 => ((testamurlaw03_list.f k (([5, 12] : List Int))).bind fun t206 => ((spans_Meet.f t200 t206).bind fun t209 => ((testamurlaw03_list.f k (([5, 9] : List Int))).bind fun t215 => ((testamurref03_Same.f k t209 t215).bind fun t218 => (if t218 = true then ((testamurlaw03_list.f k (([0, 10, 10, 20] : List Int))).bind fun t222 => ((spans_Covers.f t222 5 15).bind fun t225 => (if t225 = true then ((spans_Covers.f ([] : List (S31)) 7 7).bind fun t226 => (if t226 = true then ((spans_Covers.f t121 1023 1025).bind fun t227 => (if t227 = true then (none) else ((spans_Has.f t121 1023).bind fun t228 => (if t228 = true then ((spans_Has.f t121 1024).bind fun t229 => (if t229 = true then (none) else ((testamurlaw03_list.f k (([0, 0] : List Int))).bind fun t233 => ((spans_Check.f t233).bind fun t236 => (if t236 = 30 then ((spans_Check.f t121).bind fun t237 => (some (t237 == 0))) else (none)))))) else (none))))) else (none))) else (none)))) else (none))))))) else (none))))))) else (none)))))) else (none)))) else (none))))) else (none)))) = some r := by first | (rw [hy133]; with_reducible exact H) | (have H2_ := (Option.bind_some _ _).symm.trans H; rw [hy133]; with_reducible exact H2_) | (have H2_ := (Option.bind_some _ _).symm.trans H; with_reducible exact H2_) | with_reducible exact H | (rw [hy133]; exact H) | exact H
  have Ny133 := Aside0.mk hy133
  clear hy133
  replace H := Option.bind_eq_some_iff.mp H
  obtain ⟨t136, A40, H⟩ := H
  replace H : ((testamurref03_Same.f k t130 t136).bind fun t139 => (if t139 = true then ((testamurlaw03_list.f k (([(-5), 2000] : List Int))).bind fun t143 => ((spans_Normal.f t143).bind fun t146 => ((testamurref03_Same.f k t146 t121).bind fun t149 => (if t149 = true then ((testamurlaw03_list.f k (([5, 5] : List Int))).bind fun t153 => ((spans_Normal.f t153).bind fun t156 => (if (t156.length : Int) = 0 then ((testamurlaw03_list.f k (([0, 10] : List Int))).bind fun t162 => ((spans_Minus.f t121 t162).bind fun t165 => ((testamurlaw03_list.f k (([10, 1024] : List Int))).bind fun t171 => ((testamurref03_Same.f k t165 t171).bind fun t174 => (if t174 = true then ((testamurlaw03_list.f k (([3, 4] : List Int))).bind fun t178 => ((testamurlaw03_list.f k (([4, 5] : List Int))).bind fun t184 => ((spans_Union.f t178 t184).bind fun t187 => ((testamurlaw03_list.f k (([3, 5] : List Int))).bind fun t193 => ((testamurref03_Same.f k t187 t193).bind fun t196 => (if t196 = true then ((testamurlaw03_list.f k (([3, 9] : List Int))).bind fun t200 => ((testamurlaw03_list.f k (([5, 12] : List Int))).bind fun t206 => ((spans_Meet.f t200 t206).bind fun t209 => ((testamurlaw03_list.f k (([5, 9] : List Int))).bind fun t215 => ((testamurref03_Same.f k t209 t215).bind fun t218 => (if t218 = true then ((testamurlaw03_list.f k (([0, 10, 10, 20] : List Int))).bind fun t222 => ((spans_Covers.f t222 5 15).bind fun t225 => (if t225 = true then ((spans_Covers.f ([] : List (S31)) 7 7).bind fun t226 => (if t226 = true then ((spans_Covers.f t121 1023 1025).bind fun t227 => (if t227 = true then (none) else ((spans_Has.f t121 1023).bind fun t228 => (if t228 = true then ((spans_Has.f t121 1024).bind fun t229 => (if t229 = true then (none) else ((testamurlaw03_list.f k (([0, 0] : List Int))).bind fun t233 => ((spans_Check.f t233).bind fun t236 => (if t236 = 30 then ((spans_Check.f t121).bind fun t237 => (some (t237 == 0))) else (none)))))) else (none))))) else (none))) else (none)))) else (none))))))) else (none))))))) else (none)))))) else (none)))) else (none))))) else (none))) = some r := H
  have A4 := Aside0.mk A40
  clear A40
  replace H := Option.bind_eq_some_iff.mp H
  obtain ⟨t139, A50, H⟩ := H
  replace H : (if t139 = true then ((testamurlaw03_list.f k (([(-5), 2000] : List Int))).bind fun t143 => ((spans_Normal.f t143).bind fun t146 => ((testamurref03_Same.f k t146 t121).bind fun t149 => (if t149 = true then ((testamurlaw03_list.f k (([5, 5] : List Int))).bind fun t153 => ((spans_Normal.f t153).bind fun t156 => (if (t156.length : Int) = 0 then ((testamurlaw03_list.f k (([0, 10] : List Int))).bind fun t162 => ((spans_Minus.f t121 t162).bind fun t165 => ((testamurlaw03_list.f k (([10, 1024] : List Int))).bind fun t171 => ((testamurref03_Same.f k t165 t171).bind fun t174 => (if t174 = true then ((testamurlaw03_list.f k (([3, 4] : List Int))).bind fun t178 => ((testamurlaw03_list.f k (([4, 5] : List Int))).bind fun t184 => ((spans_Union.f t178 t184).bind fun t187 => ((testamurlaw03_list.f k (([3, 5] : List Int))).bind fun t193 => ((testamurref03_Same.f k t187 t193).bind fun t196 => (if t196 = true then ((testamurlaw03_list.f k (([3, 9] : List Int))).bind fun t200 => ((testamurlaw03_list.f k (([5, 12] : List Int))).bind fun t206 => ((spans_Meet.f t200 t206).bind fun t209 => ((testamurlaw03_list.f k (([5, 9] : List Int))).bind fun t215 => ((testamurref03_Same.f k t209 t215).bind fun t218 => (if t218 = true then ((testamurlaw03_list.f k (([0, 10, 10, 20] : List Int))).bind fun t222 => ((spans_Covers.f t222 5 15).bind fun t225 => (if t225 = true then ((spans_Covers.f ([] : List (S31)) 7 7).bind fun t226 => (if t226 = true then ((spans_Covers.f t121 1023 1025).bind fun t227 => (if t227 = true then (none) else ((spans_Has.f t121 1023).bind fun t228 => (if t228 = true then ((spans_Has.f t121 1024).bind fun t229 => (if t229 = true then (none) else ((testamurlaw03_list.f k (([0, 0] : List Int))).bind fun t233 => ((spans_Check.f t233).bind fun t236 => (if t236 = 30 then ((spans_Check.f t121).bind fun t237 => (some (t237 == 0))) else (none)))))) else (none))))) else (none))) else (none)))) else (none))))))) else (none))))))) else (none)))))) else (none)))) else (none))))) else (none)) = some r := H
  have A5 := Aside0.mk A50
  clear A50
  by_cases c6 : t139 = true
  · subst c6
    have H1 : ((testamurlaw03_list.f k (([(-5), 2000] : List Int))).bind fun t143 => ((spans_Normal.f t143).bind fun t146 => ((testamurref03_Same.f k t146 t121).bind fun t149 => (if t149 = true then ((testamurlaw03_list.f k (([5, 5] : List Int))).bind fun t153 => ((spans_Normal.f t153).bind fun t156 => (if (t156.length : Int) = 0 then ((testamurlaw03_list.f k (([0, 10] : List Int))).bind fun t162 => ((spans_Minus.f t121 t162).bind fun t165 => ((testamurlaw03_list.f k (([10, 1024] : List Int))).bind fun t171 => ((testamurref03_Same.f k t165 t171).bind fun t174 => (if t174 = true then ((testamurlaw03_list.f k (([3, 4] : List Int))).bind fun t178 => ((testamurlaw03_list.f k (([4, 5] : List Int))).bind fun t184 => ((spans_Union.f t178 t184).bind fun t187 => ((testamurlaw03_list.f k (([3, 5] : List Int))).bind fun t193 => ((testamurref03_Same.f k t187 t193).bind fun t196 => (if t196 = true then ((testamurlaw03_list.f k (([3, 9] : List Int))).bind fun t200 => ((testamurlaw03_list.f k (([5, 12] : List Int))).bind fun t206 => ((spans_Meet.f t200 t206).bind fun t209 => ((testamurlaw03_list.f k (([5, 9] : List Int))).bind fun t215 => ((testamurref03_Same.f k t209 t215).bind fun t218 => (if t218 = true then ((testamurlaw03_list.f k (([0, 10, 10, 20] : List Int))).bind fun t222 => ((spans_Covers.f t222 5 15).bind fun t225 => (if t225 = true then ((spans_Covers.f ([] : List (S31)) 7 7).bind fun t226 => (if t226 = true then ((spans_Covers.f t121 1023 1025).bind fun t227 => (if t227 = true then (none) else ((spans_Has.f t121 1023).bind fun t228 => (if t228 = true then ((spans_Has.f t121 1024).bind fun t229 => (if t229 = true then (none) else ((testamurlaw03_list.f k (([0, 0] : List Int))).bind fun t233 => ((spans_Check.f t233).bind fun t236 => (if t236 = 30 then ((spans_Check.f t121).bind fun t237 => (some (t237 == 0))) else (none)))))) else (none))))) else (none))) else (none)))) else (none))))))) else (none))))))) else (none)))))) else (none)))) else (none))))) = some r := by rw [if_pos rfl] at H; exact H
    clear H
    have H := H1
    clear H1
    obtain ⟨y140, hy140⟩ : ∃ y_ : List Int, y_ = (([(-5), 2000] : List Int)) := ⟨_, rfl⟩
    replace H : ((testamurlaw03_list.f k y140).bind fun t143 => ((spans_Normal.f t143).bind fun t146 => ((testamurref03_Same.f k t146 t121).bind fun t149 => (if t149 = true then ((testamurlaw03_list.f k (([5, 5] : List Int))).bind fun t153 => ((spans_Normal.f t153).bind fun t156 => (if (t156.length : Int) = 0 then ((testamurlaw03_list.f k (([0, 10] : List Int))).bind fun t162 => ((spans_Minus.f t121 t162).bind fun t165 => ((testamurlaw03_list.f k (([10, 1024] : List Int))).bind fun t171 => ((testamurref03_Same.f k t165 t171).bind fun t174 => (if t174 = true then ((testamurlaw03_list.f k (([3, 4] : List Int))).bind fun t178 => ((testamurlaw03_list.f k (([4, 5] : List Int))).bind fun t184 => ((spans_Union.f t178 t184).bind fun t187 => ((testamurlaw03_list.f k (([3, 5] : List Int))).bind fun t193 => ((testamurref03_Same.f k t187 t193).bind fun t196 => (if t196 = true then ((testamurlaw03_list.f k (([3, 9] : List Int))).bind fun t200 => ((testamurlaw03_list.f k (([5, 12] : List Int))).bind fun t206 => ((spans_Meet.f t200 t206).bind fun t209 => ((testamurlaw03_list.f k (([5, 9] : List Int))).bind fun t215 => ((testamurref03_Same.f k t209 t215).bind fun t218 => (if t218 = true then ((testamurlaw03_list.f k (([0, 10, 10, 20] : List Int))).bind fun t222 => ((spans_Covers.f t222 5 15).bind fun t225 => (if t225 = true then ((spans_Covers.f ([] : List (S31)) 7 7).bind fun t226 => (if t226 = true then ((spans_Covers.f t121 1023 1025).bind fun t227 => (if t227 = true then (none) else ((spans_Has.f t121 1023).bind fun t228 => (if t228 = true then ((spans_Has.f t121 1024).bind fun t229 => (if t229 = true then (none) else ((testamurlaw03_list.f k (([0, 0] : List Int))).bind fun t233 => ((spans_Check.f t233).bind fun t236 => (if t236 = 30 then ((spans_Check.f t121).bind fun t237 => (some (t237 == 0))) else (none)))))) else (none))))) else (none))) else (none)))) else (none))))))) else (none))))))) else (none)))))) else (none)))) else (none))))) = some r := by first | (rw [hy140]; with_reducible exact H) | (have H2_ := (Option.bind_some _ _).symm.trans H; rw [hy140]; with_reducible exact H2_) | (have H2_ := (Option.bind_some _ _).symm.trans H; with_reducible exact H2_) | with_reducible exact H | (rw [hy140]; exact H) | exact H
    have Ny140 := Aside0.mk hy140
    clear hy140
    replace H := Option.bind_eq_some_iff.mp H
    obtain ⟨t143, A70, H⟩ := H
    replace H : ((spans_Normal.f t143).bind fun t146 => ((testamurref03_Same.f k t146 t121).bind fun t149 => (if t149 = true then ((testamurlaw03_list.f k (([5, 5] : List Int))).bind fun t153 => ((spans_Normal.f t153).bind fun t156 => (if (t156.length : Int) = 0 then ((testamurlaw03_list.f k (([0, 10] : List Int))).bind fun t162 => ((spans_Minus.f t121 t162).bind fun t165 => ((testamurlaw03_list.f k (([10, 1024] : List Int))).bind fun t171 => ((testamurref03_Same.f k t165 t171).bind fun t174 => (if t174 = true then ((testamurlaw03_list.f k (([3, 4] : List Int))).bind fun t178 => ((testamurlaw03_list.f k (([4, 5] : List Int))).bind fun t184 => ((spans_Union.f t178 t184).bind fun t187 => ((testamurlaw03_list.f k (([3, 5] : List Int))).bind fun t193 => ((testamurref03_Same.f k t187 t193).bind fun t196 => (if t196 = true then ((testamurlaw03_list.f k (([3, 9] : List Int))).bind fun t200 => ((testamurlaw03_list.f k (([5, 12] : List Int))).bind fun t206 => ((spans_Meet.f t200 t206).bind fun t209 => ((testamurlaw03_list.f k (([5, 9] : List Int))).bind fun t215 => ((testamurref03_Same.f k t209 t215).bind fun t218 => (if t218 = true then ((testamurlaw03_list.f k (([0, 10, 10, 20] : List Int))).bind fun t222 => ((spans_Covers.f t222 5 15).bind fun t225 => (if t225 = true then ((spans_Covers.f ([] : List (S31)) 7 7).bind fun t226 => (if t226 = true then ((spans_Covers.f t121 1023 1025).bind fun t227 => (if t227 = true then (none) else ((spans_Has.f t121 1023).bind fun t228 => (if t228 = true then ((spans_Has.f t121 1024).bind fun t229 => (if t229 = true then (none) else ((testamurlaw03_list.f k (([0, 0] : List Int))).bind fun t233 => ((spans_Check.f t233).bind fun t236 => (if t236 = 30 then ((spans_Check.f t121).bind fun t237 => (some (t237 == 0))) else (none)))))) else (none))))) else (none))) else (none)))) else (none))))))) else (none))))))) else (none)))))) else (none)))) else (none)))) = some r := H
    have A7 := Aside0.mk A70
    clear A70
    replace H := Option.bind_eq_some_iff.mp H
    obtain ⟨t146, A80, H⟩ := H
    replace H : ((testamurref03_Same.f k t146 t121).bind fun t149 => (if t149 = true then ((testamurlaw03_list.f k (([5, 5] : List Int))).bind fun t153 => ((spans_Normal.f t153).bind fun t156 => (if (t156.length : Int) = 0 then ((testamurlaw03_list.f k (([0, 10] : List Int))).bind fun t162 => ((spans_Minus.f t121 t162).bind fun t165 => ((testamurlaw03_list.f k (([10, 1024] : List Int))).bind fun t171 => ((testamurref03_Same.f k t165 t171).bind fun t174 => (if t174 = true then ((testamurlaw03_list.f k (([3, 4] : List Int))).bind fun t178 => ((testamurlaw03_list.f k (([4, 5] : List Int))).bind fun t184 => ((spans_Union.f t178 t184).bind fun t187 => ((testamurlaw03_list.f k (([3, 5] : List Int))).bind fun t193 => ((testamurref03_Same.f k t187 t193).bind fun t196 => (if t196 = true then ((testamurlaw03_list.f k (([3, 9] : List Int))).bind fun t200 => ((testamurlaw03_list.f k (([5, 12] : List Int))).bind fun t206 => ((spans_Meet.f t200 t206).bind fun t209 => ((testamurlaw03_list.f k (([5, 9] : List Int))).bind fun t215 => ((testamurref03_Same.f k t209 t215).bind fun t218 => (if t218 = true then ((testamurlaw03_list.f k (([0, 10, 10, 20] : List Int))).bind fun t222 => ((spans_Covers.f t222 5 15).bind fun t225 => (if t225 = true then ((spans_Covers.f ([] : List (S31)) 7 7).bind fun t226 => (if t226 = true then ((spans_Covers.f t121 1023 1025).bind fun t227 => (if t227 = true then (none) else ((spans_Has.f t121 1023).bind fun t228 => (if t228 = true then ((spans_Has.f t121 1024).bind fun t229 => (if t229 = true then (none) else ((testamurlaw03_list.f k (([0, 0] : List Int))).bind fun t233 => ((spans_Check.f t233).bind fun t236 => (if t236 = 30 then ((spans_Check.f t121).bind fun t237 => (some (t237 == 0))) else (none)))))) else (none))))) else (none))) else (none)))) else (none))))))) else (none))))))) else (none)))))) else (none)))) else (none))) = some r := H
    have A8 := Aside0.mk A80
    clear A80
    replace H := Option.bind_eq_some_iff.mp H
    obtain ⟨t149, A90, H⟩ := H
    replace H : (if t149 = true then ((testamurlaw03_list.f k (([5, 5] : List Int))).bind fun t153 => ((spans_Normal.f t153).bind fun t156 => (if (t156.length : Int) = 0 then ((testamurlaw03_list.f k (([0, 10] : List Int))).bind fun t162 => ((spans_Minus.f t121 t162).bind fun t165 => ((testamurlaw03_list.f k (([10, 1024] : List Int))).bind fun t171 => ((testamurref03_Same.f k t165 t171).bind fun t174 => (if t174 = true then ((testamurlaw03_list.f k (([3, 4] : List Int))).bind fun t178 => ((testamurlaw03_list.f k (([4, 5] : List Int))).bind fun t184 => ((spans_Union.f t178 t184).bind fun t187 => ((testamurlaw03_list.f k (([3, 5] : List Int))).bind fun t193 => ((testamurref03_Same.f k t187 t193).bind fun t196 => (if t196 = true then ((testamurlaw03_list.f k (([3, 9] : List Int))).bind fun t200 => ((testamurlaw03_list.f k (([5, 12] : List Int))).bind fun t206 => ((spans_Meet.f t200 t206).bind fun t209 => ((testamurlaw03_list.f k (([5, 9] : List Int))).bind fun t215 => ((testamurref03_Same.f k t209 t215).bind fun t218 => (if t218 = true then ((testamurlaw03_list.f k (([0, 10, 10, 20] : List Int))).bind fun t222 => ((spans_Covers.f t222 5 15).bind fun t225 => (if t225 = true then ((spans_Covers.f ([] : List (S31)) 7 7).bind fun t226 => (if t226 = true then ((spans_Covers.f t121 1023 1025).bind fun t227 => (if t227 = true then (none) else ((spans_Has.f t121 1023).bind fun t228 => (if t228 = true then ((spans_Has.f t121 1024).bind fun t229 => (if t229 = true then (none) else ((testamurlaw03_list.f k (([0, 0] : List Int))).bind fun t233 => ((spans_Check.f t233).bind fun t236 => (if t236 = 30 then ((spans_Check.f t121).bind fun t237 => (some (t237 == 0))) else (none)))))) else (none))))) else (none))) else (none)))) else (none))))))) else (none))))))) else (none)))))) else (none)))) else (none)) = some r := H
    have A9 := Aside0.mk A90
    clear A90
    by_cases c10 : t149 = true
    · subst c10
      have H1 : ((testamurlaw03_list.f k (([5, 5] : List Int))).bind fun t153 => ((spans_Normal.f t153).bind fun t156 => (if (t156.length : Int) = 0 then ((testamurlaw03_list.f k (([0, 10] : List Int))).bind fun t162 => ((spans_Minus.f t121 t162).bind fun t165 => ((testamurlaw03_list.f k (([10, 1024] : List Int))).bind fun t171 => ((testamurref03_Same.f k t165 t171).bind fun t174 => (if t174 = true then ((testamurlaw03_list.f k (([3, 4] : List Int))).bind fun t178 => ((testamurlaw03_list.f k (([4, 5] : List Int))).bind fun t184 => ((spans_Union.f t178 t184).bind fun t187 => ((testamurlaw03_list.f k (([3, 5] : List Int))).bind fun t193 => ((testamurref03_Same.f k t187 t193).bind fun t196 => (if t196 = true then ((testamurlaw03_list.f k (([3, 9] : List Int))).bind fun t200 => ((testamurlaw03_list.f k (([5, 12] : List Int))).bind fun t206 => ((spans_Meet.f t200 t206).bind fun t209 => ((testamurlaw03_list.f k (([5, 9] : List Int))).bind fun t215 => ((testamurref03_Same.f k t209 t215).bind fun t218 => (if t218 = true then ((testamurlaw03_list.f k (([0, 10, 10, 20] : List Int))).bind fun t222 => ((spans_Covers.f t222 5 15).bind fun t225 => (if t225 = true then ((spans_Covers.f ([] : List (S31)) 7 7).bind fun t226 => (if t226 = true then ((spans_Covers.f t121 1023 1025).bind fun t227 => (if t227 = true then (none) else ((spans_Has.f t121 1023).bind fun t228 => (if t228 = true then ((spans_Has.f t121 1024).bind fun t229 => (if t229 = true then (none) else ((testamurlaw03_list.f k (([0, 0] : List Int))).bind fun t233 => ((spans_Check.f t233).bind fun t236 => (if t236 = 30 then ((spans_Check.f t121).bind fun t237 => (some (t237 == 0))) else (none)))))) else (none))))) else (none))) else (none)))) else (none))))))) else (none))))))) else (none)))))) else (none)))) = some r := by rw [if_pos rfl] at H; exact H
      clear H
      have H := H1
      clear H1
      obtain ⟨y150, hy150⟩ : ∃ y_ : List Int, y_ = (([5, 5] : List Int)) := ⟨_, rfl⟩
      replace H : ((testamurlaw03_list.f k y150).bind fun t153 => ((spans_Normal.f t153).bind fun t156 => (if (t156.length : Int) = 0 then ((testamurlaw03_list.f k (([0, 10] : List Int))).bind fun t162 => ((spans_Minus.f t121 t162).bind fun t165 => ((testamurlaw03_list.f k (([10, 1024] : List Int))).bind fun t171 => ((testamurref03_Same.f k t165 t171).bind fun t174 => (if t174 = true then ((testamurlaw03_list.f k (([3, 4] : List Int))).bind fun t178 => ((testamurlaw03_list.f k (([4, 5] : List Int))).bind fun t184 => ((spans_Union.f t178 t184).bind fun t187 => ((testamurlaw03_list.f k (([3, 5] : List Int))).bind fun t193 => ((testamurref03_Same.f k t187 t193).bind fun t196 => (if t196 = true then ((testamurlaw03_list.f k (([3, 9] : List Int))).bind fun t200 => ((testamurlaw03_list.f k (([5, 12] : List Int))).bind fun t206 => ((spans_Meet.f t200 t206).bind fun t209 => ((testamurlaw03_list.f k (([5, 9] : List Int))).bind fun t215 => ((testamurref03_Same.f k t209 t215).bind fun t218 => (if t218 = true then ((testamurlaw03_list.f k (([0, 10, 10, 20] : List Int))).bind fun t222 => ((spans_Covers.f t222 5 15).bind fun t225 => (if t225 = true then ((spans_Covers.f ([] : List (S31)) 7 7).bind fun t226 => (if t226 = true then ((spans_Covers.f t121 1023 1025).bind fun t227 => (if t227 = true then (none) else ((spans_Has.f t121 1023).bind fun t228 => (if t228 = true then ((spans_Has.f t121 1024).bind fun t229 => (if t229 = true then (none) else ((testamurlaw03_list.f k (([0, 0] : List Int))).bind fun t233 => ((spans_Check.f t233).bind fun t236 => (if t236 = 30 then ((spans_Check.f t121).bind fun t237 => (some (t237 == 0))) else (none)))))) else (none))))) else (none))) else (none)))) else (none))))))) else (none))))))) else (none)))))) else (none)))) = some r := by first | (rw [hy150]; with_reducible exact H) | (have H2_ := (Option.bind_some _ _).symm.trans H; rw [hy150]; with_reducible exact H2_) | (have H2_ := (Option.bind_some _ _).symm.trans H; with_reducible exact H2_) | with_reducible exact H | (rw [hy150]; exact H) | exact H
      have Ny150 := Aside0.mk hy150
      clear hy150
      replace H := Option.bind_eq_some_iff.mp H
      obtain ⟨t153, A110, H⟩ := H
      replace H : ((spans_Normal.f t153).bind fun t156 => (if (t156.length : Int) = 0 then ((testamurlaw03_list.f k (([0, 10] : List Int))).bind fun t162 => ((spans_Minus.f t121 t162).bind fun t165 => ((testamurlaw03_list.f k (([10, 1024] : List Int))).bind fun t171 => ((testamurref03_Same.f k t165 t171).bind fun t174 => (if t174 = true then ((testamurlaw03_list.f k (([3, 4] : List Int))).bind fun t178 => ((testamurlaw03_list.f k (([4, 5] : List Int))).bind fun t184 => ((spans_Union.f t178 t184).bind fun t187 => ((testamurlaw03_list.f k (([3, 5] : List Int))).bind fun t193 => ((testamurref03_Same.f k t187 t193).bind fun t196 => (if t196 = true then ((testamurlaw03_list.f k (([3, 9] : List Int))).bind fun t200 => ((testamurlaw03_list.f k (([5, 12] : List Int))).bind fun t206 => ((spans_Meet.f t200 t206).bind fun t209 => ((testamurlaw03_list.f k (([5, 9] : List Int))).bind fun t215 => ((testamurref03_Same.f k t209 t215).bind fun t218 => (if t218 = true then ((testamurlaw03_list.f k (([0, 10, 10, 20] : List Int))).bind fun t222 => ((spans_Covers.f t222 5 15).bind fun t225 => (if t225 = true then ((spans_Covers.f ([] : List (S31)) 7 7).bind fun t226 => (if t226 = true then ((spans_Covers.f t121 1023 1025).bind fun t227 => (if t227 = true then (none) else ((spans_Has.f t121 1023).bind fun t228 => (if t228 = true then ((spans_Has.f t121 1024).bind fun t229 => (if t229 = true then (none) else ((testamurlaw03_list.f k (([0, 0] : List Int))).bind fun t233 => ((spans_Check.f t233).bind fun t236 => (if t236 = 30 then ((spans_Check.f t121).bind fun t237 => (some (t237 == 0))) else (none)))))) else (none))))) else (none))) else (none)))) else (none))))))) else (none))))))) else (none)))))) else (none))) = some r := H
      have A11 := Aside0.mk A110
      clear A110
      replace H := Option.bind_eq_some_iff.mp H
      obtain ⟨t156, A120, H⟩ := H
      replace H : (if (t156.length : Int) = 0 then ((testamurlaw03_list.f k (([0, 10] : List Int))).bind fun t162 => ((spans_Minus.f t121 t162).bind fun t165 => ((testamurlaw03_list.f k (([10, 1024] : List Int))).bind fun t171 => ((testamurref03_Same.f k t165 t171).bind fun t174 => (if t174 = true then ((testamurlaw03_list.f k (([3, 4] : List Int))).bind fun t178 => ((testamurlaw03_list.f k (([4, 5] : List Int))).bind fun t184 => ((spans_Union.f t178 t184).bind fun t187 => ((testamurlaw03_list.f k (([3, 5] : List Int))).bind fun t193 => ((testamurref03_Same.f k t187 t193).bind fun t196 => (if t196 = true then ((testamurlaw03_list.f k (([3, 9] : List Int))).bind fun t200 => ((testamurlaw03_list.f k (([5, 12] : List Int))).bind fun t206 => ((spans_Meet.f t200 t206).bind fun t209 => ((testamurlaw03_list.f k (([5, 9] : List Int))).bind fun t215 => ((testamurref03_Same.f k t209 t215).bind fun t218 => (if t218 = true then ((testamurlaw03_list.f k (([0, 10, 10, 20] : List Int))).bind fun t222 => ((spans_Covers.f t222 5 15).bind fun t225 => (if t225 = true then ((spans_Covers.f ([] : List (S31)) 7 7).bind fun t226 => (if t226 = true then ((spans_Covers.f t121 1023 1025).bind fun t227 => (if t227 = true then (none) else ((spans_Has.f t121 1023).bind fun t228 => (if t228 = true then ((spans_Has.f t121 1024).bind fun t229 => (if t229 = true then (none) else ((testamurlaw03_list.f k (([0, 0] : List Int))).bind fun t233 => ((spans_Check.f t233).bind fun t236 => (if t236 = 30 then ((spans_Check.f t121).bind fun t237 => (some (t237 == 0))) else (none)))))) else (none))))) else (none))) else (none)))) else (none))))))) else (none))))))) else (none)))))) else (none)) = some r := H
      have A12 := Aside0.mk A120
      clear A120
      by_cases c13 : (t156.length : Int) = 0
      · rw [if_pos c13] at H
        have c13b0 : ((t156.length : Int) == 0) = true := beq_iff_eq.mpr c13
        have c13b1 : ((t156.length : Int) != 0) = false := bne_eq_false_iff_eq.mpr c13
        clear c13
        obtain ⟨y159, hy159⟩ : ∃ y_ : List Int, y_ = (([0, 10] : List Int)) := ⟨_, rfl⟩
        replace H : ((testamurlaw03_list.f k y159).bind fun t162 => ((spans_Minus.f t121 t162).bind fun t165 => ((testamurlaw03_list.f k (([10, 1024] : List Int))).bind fun t171 => ((testamurref03_Same.f k t165 t171).bind fun t174 => (if t174 = true then ((testamurlaw03_list.f k (([3, 4] : List Int))).bind fun t178 => ((testamurlaw03_list.f k (([4, 5] : List Int))).bind fun t184 => ((spans_Union.f t178 t184).bind fun t187 => ((testamurlaw03_list.f k (([3, 5] : List Int))).bind fun t193 => ((testamurref03_Same.f k t187 t193).bind fun t196 => (if t196 = true then ((testamurlaw03_list.f k (([3, 9] : List Int))).bind fun t200 => ((testamurlaw03_list.f k (([5, 12] : List Int))).bind fun t206 => ((spans_Meet.f t200 t206).bind fun t209 => ((testamurlaw03_list.f k (([5, 9] : List Int))).bind fun t215 => ((testamurref03_Same.f k t209 t215).bind fun t218 => (if t218 = true then ((testamurlaw03_list.f k (([0, 10, 10, 20] : List Int))).bind fun t222 => ((spans_Covers.f t222 5 15).bind fun t225 => (if t225 = true then ((spans_Covers.f ([] : List (S31)) 7 7).bind fun t226 => (if t226 = true then ((spans_Covers.f t121 1023 1025).bind fun t227 => (if t227 = true then (none) else ((spans_Has.f t121 1023).bind fun t228 => (if t228 = true then ((spans_Has.f t121 1024).bind fun t229 => (if t229 = true then (none) else ((testamurlaw03_list.f k (([0, 0] : List Int))).bind fun t233 => ((spans_Check.f t233).bind fun t236 => (if t236 = 30 then ((spans_Check.f t121).bind fun t237 => (some (t237 == 0))) else (none)))))) else (none))))) else (none))) else (none)))) else (none))))))) else (none))))))) else (none)))))) = some r := by first | (rw [hy159]; with_reducible exact H) | (have H2_ := (Option.bind_some _ _).symm.trans H; rw [hy159]; with_reducible exact H2_) | (have H2_ := (Option.bind_some _ _).symm.trans H; with_reducible exact H2_) | with_reducible exact H | (rw [hy159]; exact H) | exact H
        have Ny159 := Aside0.mk hy159
        clear hy159
        replace H := Option.bind_eq_some_iff.mp H
        obtain ⟨t162, A140, H⟩ := H
        replace H : ((spans_Minus.f t121 t162).bind fun t165 => ((testamurlaw03_list.f k (([10, 1024] : List Int))).bind fun t171 => ((testamurref03_Same.f k t165 t171).bind fun t174 => (if t174 = true then ((testamurlaw03_list.f k (([3, 4] : List Int))).bind fun t178 => ((testamurlaw03_list.f k (([4, 5] : List Int))).bind fun t184 => ((spans_Union.f t178 t184).bind fun t187 => ((testamurlaw03_list.f k (([3, 5] : List Int))).bind fun t193 => ((testamurref03_Same.f k t187 t193).bind fun t196 => (if t196 = true then ((testamurlaw03_list.f k (([3, 9] : List Int))).bind fun t200 => ((testamurlaw03_list.f k (([5, 12] : List Int))).bind fun t206 => ((spans_Meet.f t200 t206).bind fun t209 => ((testamurlaw03_list.f k (([5, 9] : List Int))).bind fun t215 => ((testamurref03_Same.f k t209 t215).bind fun t218 => (if t218 = true then ((testamurlaw03_list.f k (([0, 10, 10, 20] : List Int))).bind fun t222 => ((spans_Covers.f t222 5 15).bind fun t225 => (if t225 = true then ((spans_Covers.f ([] : List (S31)) 7 7).bind fun t226 => (if t226 = true then ((spans_Covers.f t121 1023 1025).bind fun t227 => (if t227 = true then (none) else ((spans_Has.f t121 1023).bind fun t228 => (if t228 = true then ((spans_Has.f t121 1024).bind fun t229 => (if t229 = true then (none) else ((testamurlaw03_list.f k (([0, 0] : List Int))).bind fun t233 => ((spans_Check.f t233).bind fun t236 => (if t236 = 30 then ((spans_Check.f t121).bind fun t237 => (some (t237 == 0))) else (none)))))) else (none))))) else (none))) else (none)))) else (none))))))) else (none))))))) else (none))))) = some r := H
        have A14 := Aside0.mk A140
        clear A140
        replace H := Option.bind_eq_some_iff.mp H
        obtain ⟨t165, A150, H⟩ := H
        replace H : ((testamurlaw03_list.f k (([10, 1024] : List Int))).bind fun t171 => ((testamurref03_Same.f k t165 t171).bind fun t174 => (if t174 = true then ((testamurlaw03_list.f k (([3, 4] : List Int))).bind fun t178 => ((testamurlaw03_list.f k (([4, 5] : List Int))).bind fun t184 => ((spans_Union.f t178 t184).bind fun t187 => ((testamurlaw03_list.f k (([3, 5] : List Int))).bind fun t193 => ((testamurref03_Same.f k t187 t193).bind fun t196 => (if t196 = true then ((testamurlaw03_list.f k (([3, 9] : List Int))).bind fun t200 => ((testamurlaw03_list.f k (([5, 12] : List Int))).bind fun t206 => ((spans_Meet.f t200 t206).bind fun t209 => ((testamurlaw03_list.f k (([5, 9] : List Int))).bind fun t215 => ((testamurref03_Same.f k t209 t215).bind fun t218 => (if t218 = true then ((testamurlaw03_list.f k (([0, 10, 10, 20] : List Int))).bind fun t222 => ((spans_Covers.f t222 5 15).bind fun t225 => (if t225 = true then ((spans_Covers.f ([] : List (S31)) 7 7).bind fun t226 => (if t226 = true then ((spans_Covers.f t121 1023 1025).bind fun t227 => (if t227 = true then (none) else ((spans_Has.f t121 1023).bind fun t228 => (if t228 = true then ((spans_Has.f t121 1024).bind fun t229 => (if t229 = true then (none) else ((testamurlaw03_list.f k (([0, 0] : List Int))).bind fun t233 => ((spans_Check.f t233).bind fun t236 => (if t236 = 30 then ((spans_Check.f t121).bind fun t237 => (some (t237 == 0))) else (none)))))) else (none))))) else (none))) else (none)))) else (none))))))) else (none))))))) else (none)))) = some r := H
        have A15 := Aside0.mk A150
        clear A150
        obtain ⟨y168, hy168⟩ : ∃ y_ : List Int, y_ = (([10, 1024] : List Int)) := ⟨_, rfl⟩
        replace H : ((testamurlaw03_list.f k y168).bind fun t171 => ((testamurref03_Same.f k t165 t171).bind fun t174 => (if t174 = true then ((testamurlaw03_list.f k (([3, 4] : List Int))).bind fun t178 => ((testamurlaw03_list.f k (([4, 5] : List Int))).bind fun t184 => ((spans_Union.f t178 t184).bind fun t187 => ((testamurlaw03_list.f k (([3, 5] : List Int))).bind fun t193 => ((testamurref03_Same.f k t187 t193).bind fun t196 => (if t196 = true then ((testamurlaw03_list.f k (([3, 9] : List Int))).bind fun t200 => ((testamurlaw03_list.f k (([5, 12] : List Int))).bind fun t206 => ((spans_Meet.f t200 t206).bind fun t209 => ((testamurlaw03_list.f k (([5, 9] : List Int))).bind fun t215 => ((testamurref03_Same.f k t209 t215).bind fun t218 => (if t218 = true then ((testamurlaw03_list.f k (([0, 10, 10, 20] : List Int))).bind fun t222 => ((spans_Covers.f t222 5 15).bind fun t225 => (if t225 = true then ((spans_Covers.f ([] : List (S31)) 7 7).bind fun t226 => (if t226 = true then ((spans_Covers.f t121 1023 1025).bind fun t227 => (if t227 = true then (none) else ((spans_Has.f t121 1023).bind fun t228 => (if t228 = true then ((spans_Has.f t121 1024).bind fun t229 => (if t229 = true then (none) else ((testamurlaw03_list.f k (([0, 0] : List Int))).bind fun t233 => ((spans_Check.f t233).bind fun t236 => (if t236 = 30 then ((spans_Check.f t121).bind fun t237 => (some (t237 == 0))) else (none)))))) else (none))))) else (none))) else (none)))) else (none))))))) else (none))))))) else (none)))) = some r := by first | (rw [hy168]; with_reducible exact H) | (have H2_ := (Option.bind_some _ _).symm.trans H; rw [hy168]; with_reducible exact H2_) | (have H2_ := (Option.bind_some _ _).symm.trans H; with_reducible exact H2_) | with_reducible exact H | (rw [hy168]; exact H) | exact H
        have Ny168 := Aside0.mk hy168
        clear hy168
        replace H := Option.bind_eq_some_iff.mp H
        obtain ⟨t171, A160, H⟩ := H
        replace H : ((testamurref03_Same.f k t165 t171).bind fun t174 => (if t174 = true then ((testamurlaw03_list.f k (([3, 4] : List Int))).bind fun t178 => ((testamurlaw03_list.f k (([4, 5] : List Int))).bind fun t184 => ((spans_Union.f t178 t184).bind fun t187 => ((testamurlaw03_list.f k (([3, 5] : List Int))).bind fun t193 => ((testamurref03_Same.f k t187 t193).bind fun t196 => (if t196 = true then ((testamurlaw03_list.f k (([3, 9] : List Int))).bind fun t200 => ((testamurlaw03_list.f k (([5, 12] : List Int))).bind fun t206 => ((spans_Meet.f t200 t206).bind fun t209 => ((testamurlaw03_list.f k (([5, 9] : List Int))).bind fun t215 => ((testamurref03_Same.f k t209 t215).bind fun t218 => (if t218 = true then ((testamurlaw03_list.f k (([0, 10, 10, 20] : List Int))).bind fun t222 => ((spans_Covers.f t222 5 15).bind fun t225 => (if t225 = true then ((spans_Covers.f ([] : List (S31)) 7 7).bind fun t226 => (if t226 = true then ((spans_Covers.f t121 1023 1025).bind fun t227 => (if t227 = true then (none) else ((spans_Has.f t121 1023).bind fun t228 => (if t228 = true then ((spans_Has.f t121 1024).bind fun t229 => (if t229 = true then (none) else ((testamurlaw03_list.f k (([0, 0] : List Int))).bind fun t233 => ((spans_Check.f t233).bind fun t236 => (if t236 = 30 then ((spans_Check.f t121).bind fun t237 => (some (t237 == 0))) else (none)))))) else (none))))) else (none))) else (none)))) else (none))))))) else (none))))))) else (none))) = some r := H
        have A16 := Aside0.mk A160
        clear A160
        replace H := Option.bind_eq_some_iff.mp H
        obtain ⟨t174, A170, H⟩ := H
        replace H : (if t174 = true then ((testamurlaw03_list.f k (([3, 4] : List Int))).bind fun t178 => ((testamurlaw03_list.f k (([4, 5] : List Int))).bind fun t184 => ((spans_Union.f t178 t184).bind fun t187 => ((testamurlaw03_list.f k (([3, 5] : List Int))).bind fun t193 => ((testamurref03_Same.f k t187 t193).bind fun t196 => (if t196 = true then ((testamurlaw03_list.f k (([3, 9] : List Int))).bind fun t200 => ((testamurlaw03_list.f k (([5, 12] : List Int))).bind fun t206 => ((spans_Meet.f t200 t206).bind fun t209 => ((testamurlaw03_list.f k (([5, 9] : List Int))).bind fun t215 => ((testamurref03_Same.f k t209 t215).bind fun t218 => (if t218 = true then ((testamurlaw03_list.f k (([0, 10, 10, 20] : List Int))).bind fun t222 => ((spans_Covers.f t222 5 15).bind fun t225 => (if t225 = true then ((spans_Covers.f ([] : List (S31)) 7 7).bind fun t226 => (if t226 = true then ((spans_Covers.f t121 1023 1025).bind fun t227 => (if t227 = true then (none) else ((spans_Has.f t121 1023).bind fun t228 => (if t228 = true then ((spans_Has.f t121 1024).bind fun t229 => (if t229 = true then (none) else ((testamurlaw03_list.f k (([0, 0] : List Int))).bind fun t233 => ((spans_Check.f t233).bind fun t236 => (if t236 = 30 then ((spans_Check.f t121).bind fun t237 => (some (t237 == 0))) else (none)))))) else (none))))) else (none))) else (none)))) else (none))))))) else (none))))))) else (none)) = some r := H
        have A17 := Aside0.mk A170
        clear A170
        by_cases c18 : t174 = true
        · subst c18
          have H1 : ((testamurlaw03_list.f k (([3, 4] : List Int))).bind fun t178 => ((testamurlaw03_list.f k (([4, 5] : List Int))).bind fun t184 => ((spans_Union.f t178 t184).bind fun t187 => ((testamurlaw03_list.f k (([3, 5] : List Int))).bind fun t193 => ((testamurref03_Same.f k t187 t193).bind fun t196 => (if t196 = true then ((testamurlaw03_list.f k (([3, 9] : List Int))).bind fun t200 => ((testamurlaw03_list.f k (([5, 12] : List Int))).bind fun t206 => ((spans_Meet.f t200 t206).bind fun t209 => ((testamurlaw03_list.f k (([5, 9] : List Int))).bind fun t215 => ((testamurref03_Same.f k t209 t215).bind fun t218 => (if t218 = true then ((testamurlaw03_list.f k (([0, 10, 10, 20] : List Int))).bind fun t222 => ((spans_Covers.f t222 5 15).bind fun t225 => (if t225 = true then ((spans_Covers.f ([] : List (S31)) 7 7).bind fun t226 => (if t226 = true then ((spans_Covers.f t121 1023 1025).bind fun t227 => (if t227 = true then (none) else ((spans_Has.f t121 1023).bind fun t228 => (if t228 = true then ((spans_Has.f t121 1024).bind fun t229 => (if t229 = true then (none) else ((testamurlaw03_list.f k (([0, 0] : List Int))).bind fun t233 => ((spans_Check.f t233).bind fun t236 => (if t236 = 30 then ((spans_Check.f t121).bind fun t237 => (some (t237 == 0))) else (none)))))) else (none))))) else (none))) else (none)))) else (none))))))) else (none))))))) = some r := by rw [if_pos rfl] at H; exact H
          clear H
          have H := H1
          clear H1
          obtain ⟨y175, hy175⟩ : ∃ y_ : List Int, y_ = (([3, 4] : List Int)) := ⟨_, rfl⟩
          replace H : ((testamurlaw03_list.f k y175).bind fun t178 => ((testamurlaw03_list.f k (([4, 5] : List Int))).bind fun t184 => ((spans_Union.f t178 t184).bind fun t187 => ((testamurlaw03_list.f k (([3, 5] : List Int))).bind fun t193 => ((testamurref03_Same.f k t187 t193).bind fun t196 => (if t196 = true then ((testamurlaw03_list.f k (([3, 9] : List Int))).bind fun t200 => ((testamurlaw03_list.f k (([5, 12] : List Int))).bind fun t206 => ((spans_Meet.f t200 t206).bind fun t209 => ((testamurlaw03_list.f k (([5, 9] : List Int))).bind fun t215 => ((testamurref03_Same.f k t209 t215).bind fun t218 => (if t218 = true then ((testamurlaw03_list.f k (([0, 10, 10, 20] : List Int))).bind fun t222 => ((spans_Covers.f t222 5 15).bind fun t225 => (if t225 = true then ((spans_Covers.f ([] : List (S31)) 7 7).bind fun t226 => (if t226 = true then ((spans_Covers.f t121 1023 1025).bind fun t227 => (if t227 = true then (none) else ((spans_Has.f t121 1023).bind fun t228 => (if t228 = true then ((spans_Has.f t121 1024).bind fun t229 => (if t229 = true then (none) else ((testamurlaw03_list.f k (([0, 0] : List Int))).bind fun t233 => ((spans_Check.f t233).bind fun t236 => (if t236 = 30 then ((spans_Check.f t121).bind fun t237 => (some (t237 == 0))) else (none)))))) else (none))))) else (none))) else (none)))) else (none))))))) else (none))))))) = some r := by first | (rw [hy175]; with_reducible exact H) | (have H2_ := (Option.bind_some _ _).symm.trans H; rw [hy175]; with_reducible exact H2_) | (have H2_ := (Option.bind_some _ _).symm.trans H; with_reducible exact H2_) | with_reducible exact H | (rw [hy175]; exact H) | exact H
          have Ny175 := Aside0.mk hy175
          clear hy175
          replace H := Option.bind_eq_some_iff.mp H
          obtain ⟨t178, A190, H⟩ := H
          replace H : ((testamurlaw03_list.f k (([4, 5] : List Int))).bind fun t184 => ((spans_Union.f t178 t184).bind fun t187 => ((testamurlaw03_list.f k (([3, 5] : List Int))).bind fun t193 => ((testamurref03_Same.f k t187 t193).bind fun t196 => (if t196 = true then ((testamurlaw03_list.f k (([3, 9] : List Int))).bind fun t200 => ((testamurlaw03_list.f k (([5, 12] : List Int))).bind fun t206 => ((spans_Meet.f t200 t206).bind fun t209 => ((testamurlaw03_list.f k (([5, 9] : List Int))).bind fun t215 => ((testamurref03_Same.f k t209 t215).bind fun t218 => (if t218 = true then ((testamurlaw03_list.f k (([0, 10, 10, 20] : List Int))).bind fun t222 => ((spans_Covers.f t222 5 15).bind fun t225 => (if t225 = true then ((spans_Covers.f ([] : List (S31)) 7 7).bind fun t226 => (if t226 = true then ((spans_Covers.f t121 1023 1025).bind fun t227 => (if t227 = true then (none) else ((spans_Has.f t121 1023).bind fun t228 => (if t228 = true then ((spans_Has.f t121 1024).bind fun t229 => (if t229 = true then (none) else ((testamurlaw03_list.f k (([0, 0] : List Int))).bind fun t233 => ((spans_Check.f t233).bind fun t236 => (if t236 = 30 then ((spans_Check.f t121).bind fun t237 => (some (t237 == 0))) else (none)))))) else (none))))) else (none))) else (none)))) else (none))))))) else (none)))))) = some r := H
          have A19 := Aside0.mk A190
          clear A190
          obtain ⟨y181, hy181⟩ : ∃ y_ : List Int, y_ = (([4, 5] : List Int)) := ⟨_, rfl⟩
          replace H : ((testamurlaw03_list.f k y181).bind fun t184 => ((spans_Union.f t178 t184).bind fun t187 => ((testamurlaw03_list.f k (([3, 5] : List Int))).bind fun t193 => ((testamurref03_Same.f k t187 t193).bind fun t196 => (if t196 = true then ((testamurlaw03_list.f k (([3, 9] : List Int))).bind fun t200 => ((testamurlaw03_list.f k (([5, 12] : List Int))).bind fun t206 => ((spans_Meet.f t200 t206).bind fun t209 => ((testamurlaw03_list.f k (([5, 9] : List Int))).bind fun t215 => ((testamurref03_Same.f k t209 t215).bind fun t218 => (if t218 = true then ((testamurlaw03_list.f k (([0, 10, 10, 20] : List Int))).bind fun t222 => ((spans_Covers.f t222 5 15).bind fun t225 => (if t225 = true then ((spans_Covers.f ([] : List (S31)) 7 7).bind fun t226 => (if t226 = true then ((spans_Covers.f t121 1023 1025).bind fun t227 => (if t227 = true then (none) else ((spans_Has.f t121 1023).bind fun t228 => (if t228 = true then ((spans_Has.f t121 1024).bind fun t229 => (if t229 = true then (none) else ((testamurlaw03_list.f k (([0, 0] : List Int))).bind fun t233 => ((spans_Check.f t233).bind fun t236 => (if t236 = 30 then ((spans_Check.f t121).bind fun t237 => (some (t237 == 0))) else (none)))))) else (none))))) else (none))) else (none)))) else (none))))))) else (none)))))) = some r := by first | (rw [hy181]; with_reducible exact H) | (have H2_ := (Option.bind_some _ _).symm.trans H; rw [hy181]; with_reducible exact H2_) | (have H2_ := (Option.bind_some _ _).symm.trans H; with_reducible exact H2_) | with_reducible exact H | (rw [hy181]; exact H) | exact H
          have Ny181 := Aside0.mk hy181
          clear hy181
          replace H := Option.bind_eq_some_iff.mp H
          obtain ⟨t184, A200, H⟩ := H
          replace H : ((spans_Union.f t178 t184).bind fun t187 => ((testamurlaw03_list.f k (([3, 5] : List Int))).bind fun t193 => ((testamurref03_Same.f k t187 t193).bind fun t196 => (if t196 = true then ((testamurlaw03_list.f k (([3, 9] : List Int))).bind fun t200 => ((testamurlaw03_list.f k (([5, 12] : List Int))).bind fun t206 => ((spans_Meet.f t200 t206).bind fun t209 => ((testamurlaw03_list.f k (([5, 9] : List Int))).bind fun t215 => ((testamurref03_Same.f k t209 t215).bind fun t218 => (if t218 = true then ((testamurlaw03_list.f k (([0, 10, 10, 20] : List Int))).bind fun t222 => ((spans_Covers.f t222 5 15).bind fun t225 => (if t225 = true then ((spans_Covers.f ([] : List (S31)) 7 7).bind fun t226 => (if t226 = true then ((spans_Covers.f t121 1023 1025).bind fun t227 => (if t227 = true then (none) else ((spans_Has.f t121 1023).bind fun t228 => (if t228 = true then ((spans_Has.f t121 1024).bind fun t229 => (if t229 = true then (none) else ((testamurlaw03_list.f k (([0, 0] : List Int))).bind fun t233 => ((spans_Check.f t233).bind fun t236 => (if t236 = 30 then ((spans_Check.f t121).bind fun t237 => (some (t237 == 0))) else (none)))))) else (none))))) else (none))) else (none)))) else (none))))))) else (none))))) = some r := H
          have A20 := Aside0.mk A200
          clear A200
          replace H := Option.bind_eq_some_iff.mp H
          obtain ⟨t187, A210, H⟩ := H
          replace H : ((testamurlaw03_list.f k (([3, 5] : List Int))).bind fun t193 => ((testamurref03_Same.f k t187 t193).bind fun t196 => (if t196 = true then ((testamurlaw03_list.f k (([3, 9] : List Int))).bind fun t200 => ((testamurlaw03_list.f k (([5, 12] : List Int))).bind fun t206 => ((spans_Meet.f t200 t206).bind fun t209 => ((testamurlaw03_list.f k (([5, 9] : List Int))).bind fun t215 => ((testamurref03_Same.f k t209 t215).bind fun t218 => (if t218 = true then ((testamurlaw03_list.f k (([0, 10, 10, 20] : List Int))).bind fun t222 => ((spans_Covers.f t222 5 15).bind fun t225 => (if t225 = true then ((spans_Covers.f ([] : List (S31)) 7 7).bind fun t226 => (if t226 = true then ((spans_Covers.f t121 1023 1025).bind fun t227 => (if t227 = true then (none) else ((spans_Has.f t121 1023).bind fun t228 => (if t228 = true then ((spans_Has.f t121 1024).bind fun t229 => (if t229 = true then (none) else ((testamurlaw03_list.f k (([0, 0] : List Int))).bind fun t233 => ((spans_Check.f t233).bind fun t236 => (if t236 = 30 then ((spans_Check.f t121).bind fun t237 => (some (t237 == 0))) else (none)))))) else (none))))) else (none))) else (none)))) else (none))))))) else (none)))) = some r := H
          have A21 := Aside0.mk A210
          clear A210
          obtain ⟨y190, hy190⟩ : ∃ y_ : List Int, y_ = (([3, 5] : List Int)) := ⟨_, rfl⟩
          replace H : ((testamurlaw03_list.f k y190).bind fun t193 => ((testamurref03_Same.f k t187 t193).bind fun t196 => (if t196 = true then ((testamurlaw03_list.f k (([3, 9] : List Int))).bind fun t200 => ((testamurlaw03_list.f k (([5, 12] : List Int))).bind fun t206 => ((spans_Meet.f t200 t206).bind fun t209 => ((testamurlaw03_list.f k (([5, 9] : List Int))).bind fun t215 => ((testamurref03_Same.f k t209 t215).bind fun t218 => (if t218 = true then ((testamurlaw03_list.f k (([0, 10, 10, 20] : List Int))).bind fun t222 => ((spans_Covers.f t222 5 15).bind fun t225 => (if t225 = true then ((spans_Covers.f ([] : List (S31)) 7 7).bind fun t226 => (if t226 = true then ((spans_Covers.f t121 1023 1025).bind fun t227 => (if t227 = true then (none) else ((spans_Has.f t121 1023).bind fun t228 => (if t228 = true then ((spans_Has.f t121 1024).bind fun t229 => (if t229 = true then (none) else ((testamurlaw03_list.f k (([0, 0] : List Int))).bind fun t233 => ((spans_Check.f t233).bind fun t236 => (if t236 = 30 then ((spans_Check.f t121).bind fun t237 => (some (t237 == 0))) else (none)))))) else (none))))) else (none))) else (none)))) else (none))))))) else (none)))) = some r := by first | (rw [hy190]; with_reducible exact H) | (have H2_ := (Option.bind_some _ _).symm.trans H; rw [hy190]; with_reducible exact H2_) | (have H2_ := (Option.bind_some _ _).symm.trans H; with_reducible exact H2_) | with_reducible exact H | (rw [hy190]; exact H) | exact H
          have Ny190 := Aside0.mk hy190
          clear hy190
          replace H := Option.bind_eq_some_iff.mp H
          obtain ⟨t193, A220, H⟩ := H
          replace H : ((testamurref03_Same.f k t187 t193).bind fun t196 => (if t196 = true then ((testamurlaw03_list.f k (([3, 9] : List Int))).bind fun t200 => ((testamurlaw03_list.f k (([5, 12] : List Int))).bind fun t206 => ((spans_Meet.f t200 t206).bind fun t209 => ((testamurlaw03_list.f k (([5, 9] : List Int))).bind fun t215 => ((testamurref03_Same.f k t209 t215).bind fun t218 => (if t218 = true then ((testamurlaw03_list.f k (([0, 10, 10, 20] : List Int))).bind fun t222 => ((spans_Covers.f t222 5 15).bind fun t225 => (if t225 = true then ((spans_Covers.f ([] : List (S31)) 7 7).bind fun t226 => (if t226 = true then ((spans_Covers.f t121 1023 1025).bind fun t227 => (if t227 = true then (none) else ((spans_Has.f t121 1023).bind fun t228 => (if t228 = true then ((spans_Has.f t121 1024).bind fun t229 => (if t229 = true then (none) else ((testamurlaw03_list.f k (([0, 0] : List Int))).bind fun t233 => ((spans_Check.f t233).bind fun t236 => (if t236 = 30 then ((spans_Check.f t121).bind fun t237 => (some (t237 == 0))) else (none)))))) else (none))))) else (none))) else (none)))) else (none))))))) else (none))) = some r := H
          have A22 := Aside0.mk A220
          clear A220
          replace H := Option.bind_eq_some_iff.mp H
          obtain ⟨t196, A230, H⟩ := H
          replace H : (if t196 = true then ((testamurlaw03_list.f k (([3, 9] : List Int))).bind fun t200 => ((testamurlaw03_list.f k (([5, 12] : List Int))).bind fun t206 => ((spans_Meet.f t200 t206).bind fun t209 => ((testamurlaw03_list.f k (([5, 9] : List Int))).bind fun t215 => ((testamurref03_Same.f k t209 t215).bind fun t218 => (if t218 = true then ((testamurlaw03_list.f k (([0, 10, 10, 20] : List Int))).bind fun t222 => ((spans_Covers.f t222 5 15).bind fun t225 => (if t225 = true then ((spans_Covers.f ([] : List (S31)) 7 7).bind fun t226 => (if t226 = true then ((spans_Covers.f t121 1023 1025).bind fun t227 => (if t227 = true then (none) else ((spans_Has.f t121 1023).bind fun t228 => (if t228 = true then ((spans_Has.f t121 1024).bind fun t229 => (if t229 = true then (none) else ((testamurlaw03_list.f k (([0, 0] : List Int))).bind fun t233 => ((spans_Check.f t233).bind fun t236 => (if t236 = 30 then ((spans_Check.f t121).bind fun t237 => (some (t237 == 0))) else (none)))))) else (none))))) else (none))) else (none)))) else (none))))))) else (none)) = some r := H
          have A23 := Aside0.mk A230
          clear A230
          by_cases c24 : t196 = true
          · subst c24
            have H1 : ((testamurlaw03_list.f k (([3, 9] : List Int))).bind fun t200 => ((testamurlaw03_list.f k (([5, 12] : List Int))).bind fun t206 => ((spans_Meet.f t200 t206).bind fun t209 => ((testamurlaw03_list.f k (([5, 9] : List Int))).bind fun t215 => ((testamurref03_Same.f k t209 t215).bind fun t218 => (if t218 = true then ((testamurlaw03_list.f k (([0, 10, 10, 20] : List Int))).bind fun t222 => ((spans_Covers.f t222 5 15).bind fun t225 => (if t225 = true then ((spans_Covers.f ([] : List (S31)) 7 7).bind fun t226 => (if t226 = true then ((spans_Covers.f t121 1023 1025).bind fun t227 => (if t227 = true then (none) else ((spans_Has.f t121 1023).bind fun t228 => (if t228 = true then ((spans_Has.f t121 1024).bind fun t229 => (if t229 = true then (none) else ((testamurlaw03_list.f k (([0, 0] : List Int))).bind fun t233 => ((spans_Check.f t233).bind fun t236 => (if t236 = 30 then ((spans_Check.f t121).bind fun t237 => (some (t237 == 0))) else (none)))))) else (none))))) else (none))) else (none)))) else (none))))))) = some r := by rw [if_pos rfl] at H; exact H
            clear H
            have H := H1
            clear H1
            obtain ⟨y197, hy197⟩ : ∃ y_ : List Int, y_ = (([3, 9] : List Int)) := ⟨_, rfl⟩
            replace H : ((testamurlaw03_list.f k y197).bind fun t200 => ((testamurlaw03_list.f k (([5, 12] : List Int))).bind fun t206 => ((spans_Meet.f t200 t206).bind fun t209 => ((testamurlaw03_list.f k (([5, 9] : List Int))).bind fun t215 => ((testamurref03_Same.f k t209 t215).bind fun t218 => (if t218 = true then ((testamurlaw03_list.f k (([0, 10, 10, 20] : List Int))).bind fun t222 => ((spans_Covers.f t222 5 15).bind fun t225 => (if t225 = true then ((spans_Covers.f ([] : List (S31)) 7 7).bind fun t226 => (if t226 = true then ((spans_Covers.f t121 1023 1025).bind fun t227 => (if t227 = true then (none) else ((spans_Has.f t121 1023).bind fun t228 => (if t228 = true then ((spans_Has.f t121 1024).bind fun t229 => (if t229 = true then (none) else ((testamurlaw03_list.f k (([0, 0] : List Int))).bind fun t233 => ((spans_Check.f t233).bind fun t236 => (if t236 = 30 then ((spans_Check.f t121).bind fun t237 => (some (t237 == 0))) else (none)))))) else (none))))) else (none))) else (none)))) else (none))))))) = some r := by first | (rw [hy197]; with_reducible exact H) | (have H2_ := (Option.bind_some _ _).symm.trans H; rw [hy197]; with_reducible exact H2_) | (have H2_ := (Option.bind_some _ _).symm.trans H; with_reducible exact H2_) | with_reducible exact H | (rw [hy197]; exact H) | exact H
            have Ny197 := Aside0.mk hy197
            clear hy197
            replace H := Option.bind_eq_some_iff.mp H
            obtain ⟨t200, A250, H⟩ := H
            replace H : ((testamurlaw03_list.f k (([5, 12] : List Int))).bind fun t206 => ((spans_Meet.f t200 t206).bind fun t209 => ((testamurlaw03_list.f k (([5, 9] : List Int))).bind fun t215 => ((testamurref03_Same.f k t209 t215).bind fun t218 => (if t218 = true then ((testamurlaw03_list.f k (([0, 10, 10, 20] : List Int))).bind fun t222 => ((spans_Covers.f t222 5 15).bind fun t225 => (if t225 = true then ((spans_Covers.f ([] : List (S31)) 7 7).bind fun t226 => (if t226 = true then ((spans_Covers.f t121 1023 1025).bind fun t227 => (if t227 = true then (none) else ((spans_Has.f t121 1023).bind fun t228 => (if t228 = true then ((spans_Has.f t121 1024).bind fun t229 => (if t229 = true then (none) else ((testamurlaw03_list.f k (([0, 0] : List Int))).bind fun t233 => ((spans_Check.f t233).bind fun t236 => (if t236 = 30 then ((spans_Check.f t121).bind fun t237 => (some (t237 == 0))) else (none)))))) else (none))))) else (none))) else (none)))) else (none)))))) = some r := H
            have A25 := Aside0.mk A250
            clear A250
            obtain ⟨y203, hy203⟩ : ∃ y_ : List Int, y_ = (([5, 12] : List Int)) := ⟨_, rfl⟩
            replace H : ((testamurlaw03_list.f k y203).bind fun t206 => ((spans_Meet.f t200 t206).bind fun t209 => ((testamurlaw03_list.f k (([5, 9] : List Int))).bind fun t215 => ((testamurref03_Same.f k t209 t215).bind fun t218 => (if t218 = true then ((testamurlaw03_list.f k (([0, 10, 10, 20] : List Int))).bind fun t222 => ((spans_Covers.f t222 5 15).bind fun t225 => (if t225 = true then ((spans_Covers.f ([] : List (S31)) 7 7).bind fun t226 => (if t226 = true then ((spans_Covers.f t121 1023 1025).bind fun t227 => (if t227 = true then (none) else ((spans_Has.f t121 1023).bind fun t228 => (if t228 = true then ((spans_Has.f t121 1024).bind fun t229 => (if t229 = true then (none) else ((testamurlaw03_list.f k (([0, 0] : List Int))).bind fun t233 => ((spans_Check.f t233).bind fun t236 => (if t236 = 30 then ((spans_Check.f t121).bind fun t237 => (some (t237 == 0))) else (none)))))) else (none))))) else (none))) else (none)))) else (none)))))) = some r := by first | (rw [hy203]; with_reducible exact H) | (have H2_ := (Option.bind_some _ _).symm.trans H; rw [hy203]; with_reducible exact H2_) | (have H2_ := (Option.bind_some _ _).symm.trans H; with_reducible exact H2_) | with_reducible exact H | (rw [hy203]; exact H) | exact H
            have Ny203 := Aside0.mk hy203
            clear hy203
            replace H := Option.bind_eq_some_iff.mp H
            obtain ⟨t206, A260, H⟩ := H
            replace H : ((spans_Meet.f t200 t206).bind fun t209 => ((testamurlaw03_list.f k (([5, 9] : List Int))).bind fun t215 => ((testamurref03_Same.f k t209 t215).bind fun t218 => (if t218 = true then ((testamurlaw03_list.f k (([0, 10, 10, 20] : List Int))).bind fun t222 => ((spans_Covers.f t222 5 15).bind fun t225 => (if t225 = true then ((spans_Covers.f ([] : List (S31)) 7 7).bind fun t226 => (if t226 = true then ((spans_Covers.f t121 1023 1025).bind fun t227 => (if t227 = true then (none) else ((spans_Has.f t121 1023).bind fun t228 => (if t228 = true then ((spans_Has.f t121 1024).bind fun t229 => (if t229 = true then (none) else ((testamurlaw03_list.f k (([0, 0] : List Int))).bind fun t233 => ((spans_Check.f t233).bind fun t236 => (if t236 = 30 then ((spans_Check.f t121).bind fun t237 => (some (t237 == 0))) else (none)))))) else (none))))) else (none))) else (none)))) else (none))))) = some r := H
            have A26 := Aside0.mk A260
            clear A260
            replace H := Option.bind_eq_some_iff.mp H
            obtain ⟨t209, A270, H⟩ := H
            replace H : ((testamurlaw03_list.f k (([5, 9] : List Int))).bind fun t215 => ((testamurref03_Same.f k t209 t215).bind fun t218 => (if t218 = true then ((testamurlaw03_list.f k (([0, 10, 10, 20] : List Int))).bind fun t222 => ((spans_Covers.f t222 5 15).bind fun t225 => (if t225 = true then ((spans_Covers.f ([] : List (S31)) 7 7).bind fun t226 => (if t226 = true then ((spans_Covers.f t121 1023 1025).bind fun t227 => (if t227 = true then (none) else ((spans_Has.f t121 1023).bind fun t228 => (if t228 = true then ((spans_Has.f t121 1024).bind fun t229 => (if t229 = true then (none) else ((testamurlaw03_list.f k (([0, 0] : List Int))).bind fun t233 => ((spans_Check.f t233).bind fun t236 => (if t236 = 30 then ((spans_Check.f t121).bind fun t237 => (some (t237 == 0))) else (none)))))) else (none))))) else (none))) else (none)))) else (none)))) = some r := H
            have A27 := Aside0.mk A270
            clear A270
            obtain ⟨y212, hy212⟩ : ∃ y_ : List Int, y_ = (([5, 9] : List Int)) := ⟨_, rfl⟩
            replace H : ((testamurlaw03_list.f k y212).bind fun t215 => ((testamurref03_Same.f k t209 t215).bind fun t218 => (if t218 = true then ((testamurlaw03_list.f k (([0, 10, 10, 20] : List Int))).bind fun t222 => ((spans_Covers.f t222 5 15).bind fun t225 => (if t225 = true then ((spans_Covers.f ([] : List (S31)) 7 7).bind fun t226 => (if t226 = true then ((spans_Covers.f t121 1023 1025).bind fun t227 => (if t227 = true then (none) else ((spans_Has.f t121 1023).bind fun t228 => (if t228 = true then ((spans_Has.f t121 1024).bind fun t229 => (if t229 = true then (none) else ((testamurlaw03_list.f k (([0, 0] : List Int))).bind fun t233 => ((spans_Check.f t233).bind fun t236 => (if t236 = 30 then ((spans_Check.f t121).bind fun t237 => (some (t237 == 0))) else (none)))))) else (none))))) else (none))) else (none)))) else (none)))) = some r := by first | (rw [hy212]; with_reducible exact H) | (have H2_ := (Option.bind_some _ _).symm.trans H; rw [hy212]; with_reducible exact H2_) | (have H2_ := (Option.bind_some _ _).symm.trans H; with_reducible exact H2_) | with_reducible exact H | (rw [hy212]; exact H) | exact H
            have Ny212 := Aside0.mk hy212
            clear hy212
            replace H := Option.bind_eq_some_iff.mp H
            obtain ⟨t215, A280, H⟩ := H
            replace H : ((testamurref03_Same.f k t209 t215).bind fun t218 => (if t218 = true then ((testamurlaw03_list.f k (([0, 10, 10, 20] : List Int))).bind fun t222 => ((spans_Covers.f t222 5 15).bind fun t225 => (if t225 = true then ((spans_Covers.f ([] : List (S31)) 7 7).bind fun t226 => (if t226 = true then ((spans_Covers.f t121 1023 1025).bind fun t227 => (if t227 = true then (none) else ((spans_Has.f t121 1023).bind fun t228 => (if t228 = true then ((spans_Has.f t121 1024).bind fun t229 => (if t229 = true then (none) else ((testamurlaw03_list.f k (([0, 0] : List Int))).bind fun t233 => ((spans_Check.f t233).bind fun t236 => (if t236 = 30 then ((spans_Check.f t121).bind fun t237 => (some (t237 == 0))) else (none)))))) else (none))))) else (none))) else (none)))) else (none))) = some r := H
            have A28 := Aside0.mk A280
            clear A280
            replace H := Option.bind_eq_some_iff.mp H
            obtain ⟨t218, A290, H⟩ := H
            replace H : (if t218 = true then ((testamurlaw03_list.f k (([0, 10, 10, 20] : List Int))).bind fun t222 => ((spans_Covers.f t222 5 15).bind fun t225 => (if t225 = true then ((spans_Covers.f ([] : List (S31)) 7 7).bind fun t226 => (if t226 = true then ((spans_Covers.f t121 1023 1025).bind fun t227 => (if t227 = true then (none) else ((spans_Has.f t121 1023).bind fun t228 => (if t228 = true then ((spans_Has.f t121 1024).bind fun t229 => (if t229 = true then (none) else ((testamurlaw03_list.f k (([0, 0] : List Int))).bind fun t233 => ((spans_Check.f t233).bind fun t236 => (if t236 = 30 then ((spans_Check.f t121).bind fun t237 => (some (t237 == 0))) else (none)))))) else (none))))) else (none))) else (none)))) else (none)) = some r := H
            have A29 := Aside0.mk A290
            clear A290
            by_cases c30 : t218 = true
            · subst c30
              have H1 : ((testamurlaw03_list.f k (([0, 10, 10, 20] : List Int))).bind fun t222 => ((spans_Covers.f t222 5 15).bind fun t225 => (if t225 = true then ((spans_Covers.f ([] : List (S31)) 7 7).bind fun t226 => (if t226 = true then ((spans_Covers.f t121 1023 1025).bind fun t227 => (if t227 = true then (none) else ((spans_Has.f t121 1023).bind fun t228 => (if t228 = true then ((spans_Has.f t121 1024).bind fun t229 => (if t229 = true then (none) else ((testamurlaw03_list.f k (([0, 0] : List Int))).bind fun t233 => ((spans_Check.f t233).bind fun t236 => (if t236 = 30 then ((spans_Check.f t121).bind fun t237 => (some (t237 == 0))) else (none)))))) else (none))))) else (none))) else (none)))) = some r := by rw [if_pos rfl] at H; exact H
              clear H
              have H := H1
              clear H1
              obtain ⟨y219, hy219⟩ : ∃ y_ : List Int, y_ = (([0, 10, 10, 20] : List Int)) := ⟨_, rfl⟩
              replace H : ((testamurlaw03_list.f k y219).bind fun t222 => ((spans_Covers.f t222 5 15).bind fun t225 => (if t225 = true then ((spans_Covers.f ([] : List (S31)) 7 7).bind fun t226 => (if t226 = true then ((spans_Covers.f t121 1023 1025).bind fun t227 => (if t227 = true then (none) else ((spans_Has.f t121 1023).bind fun t228 => (if t228 = true then ((spans_Has.f t121 1024).bind fun t229 => (if t229 = true then (none) else ((testamurlaw03_list.f k (([0, 0] : List Int))).bind fun t233 => ((spans_Check.f t233).bind fun t236 => (if t236 = 30 then ((spans_Check.f t121).bind fun t237 => (some (t237 == 0))) else (none)))))) else (none))))) else (none))) else (none)))) = some r := by first | (rw [hy219]; with_reducible exact H) | (have H2_ := (Option.bind_some _ _).symm.trans H; rw [hy219]; with_reducible exact H2_) | (have H2_ := (Option.bind_some _ _).symm.trans H; with_reducible exact H2_) | with_reducible exact H | (rw [hy219]; exact H) | exact H
              have Ny219 := Aside0.mk hy219
              clear hy219
              replace H := Option.bind_eq_some_iff.mp H
              obtain ⟨t222, A310, H⟩ := H
              replace H : ((spans_Covers.f t222 5 15).bind fun t225 => (if t225 = true then ((spans_Covers.f ([] : List (S31)) 7 7).bind fun t226 => (if t226 = true then ((spans_Covers.f t121 1023 1025).bind fun t227 => (if t227 = true then (none) else ((spans_Has.f t121 1023).bind fun t228 => (if t228 = true then ((spans_Has.f t121 1024).bind fun t229 => (if t229 = true then (none) else ((testamurlaw03_list.f k (([0, 0] : List Int))).bind fun t233 => ((spans_Check.f t233).bind fun t236 => (if t236 = 30 then ((spans_Check.f t121).bind fun t237 => (some (t237 == 0))) else (none)))))) else (none))))) else (none))) else (none))) = some r := H
              have A31 := Aside0.mk A310
              clear A310
              replace H := Option.bind_eq_some_iff.mp H
              obtain ⟨t225, A320, H⟩ := H
              replace H : (if t225 = true then ((spans_Covers.f ([] : List (S31)) 7 7).bind fun t226 => (if t226 = true then ((spans_Covers.f t121 1023 1025).bind fun t227 => (if t227 = true then (none) else ((spans_Has.f t121 1023).bind fun t228 => (if t228 = true then ((spans_Has.f t121 1024).bind fun t229 => (if t229 = true then (none) else ((testamurlaw03_list.f k (([0, 0] : List Int))).bind fun t233 => ((spans_Check.f t233).bind fun t236 => (if t236 = 30 then ((spans_Check.f t121).bind fun t237 => (some (t237 == 0))) else (none)))))) else (none))))) else (none))) else (none)) = some r := H
              have A32 := Aside0.mk A320
              clear A320
              by_cases c33 : t225 = true
              · subst c33
                have H1 : ((spans_Covers.f ([] : List (S31)) 7 7).bind fun t226 => (if t226 = true then ((spans_Covers.f t121 1023 1025).bind fun t227 => (if t227 = true then (none) else ((spans_Has.f t121 1023).bind fun t228 => (if t228 = true then ((spans_Has.f t121 1024).bind fun t229 => (if t229 = true then (none) else ((testamurlaw03_list.f k (([0, 0] : List Int))).bind fun t233 => ((spans_Check.f t233).bind fun t236 => (if t236 = 30 then ((spans_Check.f t121).bind fun t237 => (some (t237 == 0))) else (none)))))) else (none))))) else (none))) = some r := by rw [if_pos rfl] at H; exact H
                clear H
                have H := H1
                clear H1
                replace H := Option.bind_eq_some_iff.mp H
                obtain ⟨t226, A340, H⟩ := H
                replace H : (if t226 = true then ((spans_Covers.f t121 1023 1025).bind fun t227 => (if t227 = true then (none) else ((spans_Has.f t121 1023).bind fun t228 => (if t228 = true then ((spans_Has.f t121 1024).bind fun t229 => (if t229 = true then (none) else ((testamurlaw03_list.f k (([0, 0] : List Int))).bind fun t233 => ((spans_Check.f t233).bind fun t236 => (if t236 = 30 then ((spans_Check.f t121).bind fun t237 => (some (t237 == 0))) else (none)))))) else (none))))) else (none)) = some r := H
                have A34 := Aside0.mk A340
                clear A340
                by_cases c35 : t226 = true
                · subst c35
                  have H1 : ((spans_Covers.f t121 1023 1025).bind fun t227 => (if t227 = true then (none) else ((spans_Has.f t121 1023).bind fun t228 => (if t228 = true then ((spans_Has.f t121 1024).bind fun t229 => (if t229 = true then (none) else ((testamurlaw03_list.f k (([0, 0] : List Int))).bind fun t233 => ((spans_Check.f t233).bind fun t236 => (if t236 = 30 then ((spans_Check.f t121).bind fun t237 => (some (t237 == 0))) else (none)))))) else (none))))) = some r := by rw [if_pos rfl] at H; exact H
                  clear H
                  have H := H1
                  clear H1
                  replace H := Option.bind_eq_some_iff.mp H
                  obtain ⟨t227, A360, H⟩ := H
                  replace H : (if t227 = true then (none) else ((spans_Has.f t121 1023).bind fun t228 => (if t228 = true then ((spans_Has.f t121 1024).bind fun t229 => (if t229 = true then (none) else ((testamurlaw03_list.f k (([0, 0] : List Int))).bind fun t233 => ((spans_Check.f t233).bind fun t236 => (if t236 = 30 then ((spans_Check.f t121).bind fun t237 => (some (t237 == 0))) else (none)))))) else (none)))) = some r := H
                  have A36 := Aside0.mk A360
                  clear A360
                  by_cases c37 : t227 = true
                  · subst c37
                    have H1 : (none) = some r := by rw [if_pos rfl] at H; exact H
                    clear H
                    have H := H1
                    clear H1
                    exact absurd H (by simp)
                  · replace c37 := Bool.eq_false_iff.mpr c37
                    subst c37
                    have H1 : ((spans_Has.f t121 1023).bind fun t228 => (if t228 = true then ((spans_Has.f t121 1024).bind fun t229 => (if t229 = true then (none) else ((testamurlaw03_list.f k (([0, 0] : List Int))).bind fun t233 => ((spans_Check.f t233).bind fun t236 => (if t236 = 30 then ((spans_Check.f t121).bind fun t237 => (some (t237 == 0))) else (none)))))) else (none))) = some r := by rw [if_neg (show ¬ (false = true) by decide)] at H; exact H
                    clear H
                    have H := H1
                    clear H1
                    replace H := Option.bind_eq_some_iff.mp H
                    obtain ⟨t228, A380, H⟩ := H
                    replace H : (if t228 = true then ((spans_Has.f t121 1024).bind fun t229 => (if t229 = true then (none) else ((testamurlaw03_list.f k (([0, 0] : List Int))).bind fun t233 => ((spans_Check.f t233).bind fun t236 => (if t236 = 30 then ((spans_Check.f t121).bind fun t237 => (some (t237 == 0))) else (none)))))) else (none)) = some r := H
                    have A38 := Aside0.mk A380
                    clear A380
                    by_cases c39 : t228 = true
                    · subst c39
                      have H1 : ((spans_Has.f t121 1024).bind fun t229 => (if t229 = true then (none) else ((testamurlaw03_list.f k (([0, 0] : List Int))).bind fun t233 => ((spans_Check.f t233).bind fun t236 => (if t236 = 30 then ((spans_Check.f t121).bind fun t237 => (some (t237 == 0))) else (none)))))) = some r := by rw [if_pos rfl] at H; exact H
                      clear H
                      have H := H1
                      clear H1
                      replace H := Option.bind_eq_some_iff.mp H
                      obtain ⟨t229, A400, H⟩ := H
                      replace H : (if t229 = true then (none) else ((testamurlaw03_list.f k (([0, 0] : List Int))).bind fun t233 => ((spans_Check.f t233).bind fun t236 => (if t236 = 30 then ((spans_Check.f t121).bind fun t237 => (some (t237 == 0))) else (none))))) = some r := H
                      have A40 := Aside0.mk A400
                      clear A400
                      by_cases c41 : t229 = true
                      · subst c41
                        have H1 : (none) = some r := by rw [if_pos rfl] at H; exact H
                        clear H
                        have H := H1
                        clear H1
                        exact absurd H (by simp)
                      · replace c41 := Bool.eq_false_iff.mpr c41
                        subst c41
                        have H1 : ((testamurlaw03_list.f k (([0, 0] : List Int))).bind fun t233 => ((spans_Check.f t233).bind fun t236 => (if t236 = 30 then ((spans_Check.f t121).bind fun t237 => (some (t237 == 0))) else (none)))) = some r := by rw [if_neg (show ¬ (false = true) by decide)] at H; exact H
                        clear H
                        have H := H1
                        clear H1
                        obtain ⟨y230, hy230⟩ : ∃ y_ : List Int, y_ = (([0, 0] : List Int)) := ⟨_, rfl⟩
                        replace H : ((testamurlaw03_list.f k y230).bind fun t233 => ((spans_Check.f t233).bind fun t236 => (if t236 = 30 then ((spans_Check.f t121).bind fun t237 => (some (t237 == 0))) else (none)))) = some r := by first | (rw [hy230]; with_reducible exact H) | (have H2_ := (Option.bind_some _ _).symm.trans H; rw [hy230]; with_reducible exact H2_) | (have H2_ := (Option.bind_some _ _).symm.trans H; with_reducible exact H2_) | with_reducible exact H | (rw [hy230]; exact H) | exact H
                        have Ny230 := Aside0.mk hy230
                        clear hy230
                        replace H := Option.bind_eq_some_iff.mp H
                        obtain ⟨t233, A420, H⟩ := H
                        replace H : ((spans_Check.f t233).bind fun t236 => (if t236 = 30 then ((spans_Check.f t121).bind fun t237 => (some (t237 == 0))) else (none))) = some r := H
                        have A42 := Aside0.mk A420
                        clear A420
                        replace H := Option.bind_eq_some_iff.mp H
                        obtain ⟨t236, A430, H⟩ := H
                        replace H : (if t236 = 30 then ((spans_Check.f t121).bind fun t237 => (some (t237 == 0))) else (none)) = some r := H
                        have A43 := Aside0.mk A430
                        clear A430
                        by_cases c44 : t236 = 30
                        · rw [if_pos c44] at H
                          have c44b0 : (t236 == 30) = true := beq_iff_eq.mpr c44
                          have c44b1 : (t236 != 30) = false := bne_eq_false_iff_eq.mpr c44
                          clear c44
                          replace H := Option.bind_eq_some_iff.mp H
                          obtain ⟨t237, A450, H⟩ := H
                          replace H : (some (t237 == 0)) = some r := H
                          have A45 := Aside0.mk A450
                          clear A450
                          obtain rfl := Option.some.inj H
                          go_enter Try.func10, Try.ntmps10
                          try simp only [List.append]
                          go_wp2_with ((with_reducible refine gate_dst (N := 2) rfl ?_); (try (refine gate_guard (by rfl) ?_; dsimp only)); refine Aside0.out (p := _) ?_)
                          refine ⟨?_⟩
                          refine Kd.R_lit (Kd.int .i64) _ 3 ?hg (N := 2) ?hd (xs := ([0, 1024] : List Int)) (inner := [.int .i64 0, .int .i64 1024]) (ok := fun _ => True) (okp := fun _ => True) ?hr ?hp (fun _ hk => hk) trivial (Below.refl _ _) (Nat.le_refl _) (by simp) ?_; (case hd => rfl); (case hg => rfl); (case hr => first | (go_simp; done) | (go_simp; rfl)); (case hp => exact (Reps.one (show Kd.M (Kd.int .i64) _ _ _ 0 [.int .i64 0] from rfl) (Reps.one (show Kd.M (Kd.int .i64) _ _ _ 1024 [.int .i64 1024] from rfl) (Reps.none _ _))))
                          intro v119 w46 ho47 hb hg_ hnew_
                          clear hg_ hnew_
                          (first | rw [← Ny118.out] at ho47 | (simp only [Int.reduceToNat] at ho47; rw [← Ny118.out] at ho47))
                          have n0_ := Aside0.mk (Kd.R_lower ho47 (below_size (by repeat (first | (with_reducible first | exact HB.out | apply below_alloc | apply pw_below_drewN | apply below_drew1) | exact HB.out))))
                          have n1_ := Aside0.mk (below_step (by repeat (first | (with_reducible first | exact HB.out | apply below_alloc | apply pw_below_drewN | apply below_drew1) | exact HB.out)) hb)
                          clear HB
                          have HO120 := n0_
                          have HB := n1_
                          clear n0_ n1_
                          clear hb ho47
                          obtain ⟨Ao48, co48, eo48⟩ := Kd.R_slice HO120.out
                          subst eo48
                          go_wp2_with ((with_reducible refine gate_callee (f := 27) rfl ?_); refine Aside0.out (p := _) ?_)
                          refine ⟨?_⟩
                          refine goesL_ (some 3) rfl rfl Try.func27 (by kernel_rfl) rfl #[.slice Ao48 y118.length co48] rfl (by (try simp only [List.map_toArray, List.map_cons, List.map_nil]); first | done | rfl | (simp only [List.length_drop, List.length_take]; rfl)) ?_
                          (with_reducible refine (testamurlaw03_list.calls k _ _ y118 t121 _ ?side1 ?side2 A1.out).mono ?_)
                          (case side1 => repeat (first | exact (Kd.R_reads' HO120.out).2.2 | (with_reducible refine Kd.C_alloc ?_ _) | (with_reducible refine Kd.C_drewN ?_ _) | (with_reducible refine Kd.C_drew ?_)))
                          (case side2 => exact (Kd.R_reads' HO120.out).2.1)
                          rintro e w49 ⟨v122, rfl, ho0, hb⟩
                          refine ⟨_, rfl, ?_⟩
                          have n1_ := Aside0.mk (Kd.R_lower ho0 (below_size (by repeat (first | (with_reducible first | exact HB.out | apply below_alloc | apply pw_below_drewN | apply below_drew1) | exact HB.out))))
                          have n2_ := Aside0.mk (below_step (by repeat (first | (with_reducible first | exact HB.out | apply below_alloc | apply pw_below_drewN | apply below_drew1) | exact HB.out)) hb)
                          clear HO120
                          clear HB
                          have HO123 := n1_
                          have HB := n2_
                          clear n1_ n2_
                          (try clear hb)
                          (try clear hb2)
                          (try clear hk)
                          (try clear hi)
                          (try clear ho0)
                          go_wp2_with ((with_reducible refine gate_dst (N := 4) rfl ?_); (try (refine gate_guard (by rfl) ?_; dsimp only)); refine Aside0.out (p := _) ?_)
                          refine ⟨?_⟩
                          refine Kd.R_lit (Kd.int .i64) _ 3 ?hg (N := 4) ?hd (xs := ([10, 20, 15, 30] : List Int)) (inner := [.int .i64 10, .int .i64 20, .int .i64 15, .int .i64 30]) (ok := fun _ => True) (okp := fun _ => True) ?hr ?hp (fun _ hk => hk) trivial (Below.refl _ _) (Nat.le_refl _) (by simp) ?_; (case hd => rfl); (case hg => rfl); (case hr => first | (go_simp; done) | (go_simp; rfl)); (case hp => exact (Reps.one (show Kd.M (Kd.int .i64) _ _ _ 10 [.int .i64 10] from rfl) (Reps.one (show Kd.M (Kd.int .i64) _ _ _ 20 [.int .i64 20] from rfl) (Reps.one (show Kd.M (Kd.int .i64) _ _ _ 15 [.int .i64 15] from rfl) (Reps.one (show Kd.M (Kd.int .i64) _ _ _ 30 [.int .i64 30] from rfl) (Reps.none _ _))))))
                          intro v125 w50 ho51 hb hg_ hnew_
                          clear hg_ hnew_
                          (first | rw [← Ny124.out] at ho51 | (simp only [Int.reduceToNat] at ho51; rw [← Ny124.out] at ho51))
                          have n1_ := Aside0.mk (Kd.R_below (by (with_reducible repeat (first | apply Kd.R_alloc | apply Kd.R_drewN | apply Kd.R_drew)); exact HO123.out) hb)
                          have n2_ := Aside0.mk (Kd.R_lower ho51 (below_size (by repeat (first | (with_reducible first | exact HB.out | apply below_alloc | apply pw_below_drewN | apply below_drew1) | exact HB.out))))
                          have n3_ := Aside0.mk (below_step (by repeat (first | (with_reducible first | exact HB.out | apply below_alloc | apply pw_below_drewN | apply below_drew1) | exact HB.out)) hb)
                          clear HO123
                          clear HB
                          have HO123 := n1_
                          have HO126 := n2_
                          have HB := n3_
                          clear n1_ n2_ n3_
                          clear hb ho51
                          obtain ⟨Ao52, co52, eo52⟩ := Kd.R_slice HO126.out
                          subst eo52
                          go_wp2_with ((with_reducible refine gate_callee (f := 27) rfl ?_); refine Aside0.out (p := _) ?_)
                          refine ⟨?_⟩
                          refine goesL_ (some 5) rfl rfl Try.func27 (by kernel_rfl) rfl #[.slice Ao52 y124.length co52] rfl (by (try simp only [List.map_toArray, List.map_cons, List.map_nil]); first | done | rfl | (simp only [List.length_drop, List.length_take]; rfl)) ?_
                          (with_reducible refine (testamurlaw03_list.calls k _ _ y124 t127 _ ?side1 ?side2 A2.out).mono ?_)
                          (case side1 => repeat (first | exact (Kd.R_reads' HO126.out).2.2 | (with_reducible refine Kd.C_alloc ?_ _) | (with_reducible refine Kd.C_drewN ?_ _) | (with_reducible refine Kd.C_drew ?_)))
                          (case side2 => exact (Kd.R_reads' HO126.out).2.1)
                          rintro e w53 ⟨v128, rfl, ho0, hb⟩
                          refine ⟨_, rfl, ?_⟩
                          have n1_ := Aside0.mk (Kd.R_elder' (by (with_reducible repeat (first | apply Kd.R_alloc | apply Kd.R_drewN | apply Kd.R_drew)); exact HO123.out) (Kd.R_base ho0) hb)
                          have n3_ := Aside0.mk (Kd.R_lower ho0 (below_size (by repeat (first | (with_reducible first | exact HB.out | apply below_alloc | apply pw_below_drewN | apply below_drew1) | exact HB.out))))
                          have n4_ := Aside0.mk (below_step (by repeat (first | (with_reducible first | exact HB.out | apply below_alloc | apply pw_below_drewN | apply below_drew1) | exact HB.out)) hb)
                          clear HO123
                          clear HO126
                          clear HB
                          have HO123 := n1_
                          have HO129 := n3_
                          have HB := n4_
                          clear n1_ n3_ n4_
                          (try clear hb)
                          (try clear hb2)
                          (try clear hk)
                          (try clear hi)
                          (try clear ho0)
                          obtain ⟨Ao54, co54, eo54⟩ := Kd.R_slice HO129.out
                          subst eo54
                          go_wp2_with ((with_reducible refine gate_callee (f := 15) rfl ?_); refine Aside0.out (p := _) ?_)
                          refine ⟨?_⟩
                          refine goesL_ (some 6) rfl rfl Try.func15 (by kernel_rfl) rfl #[.slice Ao54 t127.length co54] rfl (by (try simp only [List.map_toArray, List.map_cons, List.map_nil]); first | done | rfl | (simp only [List.length_drop, List.length_take]; rfl)) ?_
                          (with_reducible refine (spans_Normal.calls _ _ t127 t130 _ ?side1 ?side2 A3.out).mono ?_)
                          (case side1 => repeat (first | exact (Kd.R_reads' HO129.out).2.2 | (with_reducible refine Kd.C_alloc ?_ _) | (with_reducible refine Kd.C_drewN ?_ _) | (with_reducible refine Kd.C_drew ?_)))
                          (case side2 => exact (Kd.R_reads' HO129.out).2.1)
                          rintro e w55 ⟨v131, rfl, ho0, hb⟩
                          refine ⟨_, rfl, ?_⟩
                          have n1_ := Aside0.mk (Kd.R_elder' (by (with_reducible repeat (first | apply Kd.R_alloc | apply Kd.R_drewN | apply Kd.R_drew)); exact HO123.out) (Kd.R_base ho0) hb)
                          have n4_ := Aside0.mk (Kd.R_lower ho0 (below_size (by repeat (first | (with_reducible first | exact HB.out | apply below_alloc | apply pw_below_drewN | apply below_drew1) | exact HB.out))))
                          have n5_ := Aside0.mk (below_step (by repeat (first | (with_reducible first | exact HB.out | apply below_alloc | apply pw_below_drewN | apply below_drew1) | exact HB.out)) hb)
                          clear HO123
                          clear HO129
                          clear HB
                          have HO123 := n1_
                          have HO132 := n4_
                          have HB := n5_
                          clear n1_ n4_ n5_
                          (try clear hb)
                          (try clear hb2)
                          (try clear hk)
                          (try clear hi)
                          (try clear ho0)
                          go_wp2_with ((with_reducible refine gate_dst (N := 7) rfl ?_); (try (refine gate_guard (by rfl) ?_; dsimp only)); refine Aside0.out (p := _) ?_)
                          refine ⟨?_⟩
                          refine Kd.R_lit (Kd.int .i64) _ 3 ?hg (N := 7) ?hd (xs := ([10, 30] : List Int)) (inner := [.int .i64 10, .int .i64 30]) (ok := fun _ => True) (okp := fun _ => True) ?hr ?hp (fun _ hk => hk) trivial (Below.refl _ _) (Nat.le_refl _) (by simp) ?_; (case hd => rfl); (case hg => rfl); (case hr => first | (go_simp; done) | (go_simp; rfl)); (case hp => exact (Reps.one (show Kd.M (Kd.int .i64) _ _ _ 10 [.int .i64 10] from rfl) (Reps.one (show Kd.M (Kd.int .i64) _ _ _ 30 [.int .i64 30] from rfl) (Reps.none _ _))))
                          intro v134 w56 ho57 hb hg_ hnew_
                          clear hg_ hnew_
                          (first | rw [← Ny133.out] at ho57 | (simp only [Int.reduceToNat] at ho57; rw [← Ny133.out] at ho57))
                          have n1_ := Aside0.mk (Kd.R_below (by (with_reducible repeat (first | apply Kd.R_alloc | apply Kd.R_drewN | apply Kd.R_drew)); exact HO123.out) hb)
                          have n4_ := Aside0.mk (Kd.R_below (by (with_reducible repeat (first | apply Kd.R_alloc | apply Kd.R_drewN | apply Kd.R_drew)); exact HO132.out) hb)
                          have n5_ := Aside0.mk (Kd.R_lower ho57 (below_size (by repeat (first | (with_reducible first | exact HB.out | apply below_alloc | apply pw_below_drewN | apply below_drew1) | exact HB.out))))
                          have n6_ := Aside0.mk (below_step (by repeat (first | (with_reducible first | exact HB.out | apply below_alloc | apply pw_below_drewN | apply below_drew1) | exact HB.out)) hb)
                          clear HO123
                          clear HO132
                          clear HB
                          have HO123 := n1_
                          have HO132 := n4_
                          have HO135 := n5_
                          have HB := n6_
                          clear n1_ n4_ n5_ n6_
                          clear hb ho57
                          obtain ⟨Ao58, co58, eo58⟩ := Kd.R_slice HO135.out
                          subst eo58
                          go_wp2_with ((with_reducible refine gate_callee (f := 27) rfl ?_); refine Aside0.out (p := _) ?_)
                          refine ⟨?_⟩
                          refine goesL_ (some 8) rfl rfl Try.func27 (by kernel_rfl) rfl #[.slice Ao58 y133.length co58] rfl (by (try simp only [List.map_toArray, List.map_cons, List.map_nil]); first | done | rfl | (simp only [List.length_drop, List.length_take]; rfl)) ?_
                          (with_reducible refine (testamurlaw03_list.calls k _ _ y133 t136 _ ?side1 ?side2 A4.out).mono ?_)
                          (case side1 => repeat (first | exact (Kd.R_reads' HO135.out).2.2 | (with_reducible refine Kd.C_alloc ?_ _) | (with_reducible refine Kd.C_drewN ?_ _) | (with_reducible refine Kd.C_drew ?_)))
                          (case side2 => exact (Kd.R_reads' HO135.out).2.1)
                          rintro e w59 ⟨v137, rfl, ho0, hb⟩
                          refine ⟨_, rfl, ?_⟩
                          have n1_ := Aside0.mk (Kd.R_elder' (by (with_reducible repeat (first | apply Kd.R_alloc | apply Kd.R_drewN | apply Kd.R_drew)); exact HO123.out) (Kd.R_base ho0) hb)
                          have n4_ := Aside0.mk (Kd.R_elder' (by (with_reducible repeat (first | apply Kd.R_alloc | apply Kd.R_drewN | apply Kd.R_drew)); exact HO132.out) (Kd.R_base ho0) hb)
                          have n6_ := Aside0.mk (Kd.R_lower ho0 (below_size (by repeat (first | (with_reducible first | exact HB.out | apply below_alloc | apply pw_below_drewN | apply below_drew1) | exact HB.out))))
                          have n7_ := Aside0.mk (below_step (by repeat (first | (with_reducible first | exact HB.out | apply below_alloc | apply pw_below_drewN | apply below_drew1) | exact HB.out)) hb)
                          clear HO123
                          clear HO132
                          clear HO135
                          clear HB
                          have HO123 := n1_
                          have HO132 := n4_
                          have HO138 := n6_
                          have HB := n7_
                          clear n1_ n4_ n6_ n7_
                          (try clear hb)
                          (try clear hb2)
                          (try clear hk)
                          (try clear hi)
                          (try clear ho0)
                          obtain ⟨Ao60, co60, eo60⟩ := Kd.R_slice HO132.out
                          subst eo60
                          obtain ⟨Ao61, co61, eo61⟩ := Kd.R_slice HO138.out
                          subst eo61
                          go_wp2_with ((with_reducible refine gate_callee (f := 14) rfl ?_); refine Aside0.out (p := _) ?_)
                          refine ⟨?_⟩
                          refine goesL_ (some 9) rfl rfl Try.func14 (by kernel_rfl) rfl #[.slice Ao60 t130.length co60, .slice Ao61 t136.length co61] rfl (by (try simp only [List.map_toArray, List.map_cons, List.map_nil]); first | done | rfl | (simp only [List.length_drop, List.length_take]; rfl)) ?_
                          (with_reducible refine (testamurref03_Same.calls k _ _ t130 _ _ t136 true _ ?side1 ?side2 ?side3 ?side4 A5.out).mono ?_)
                          (case side1 => repeat (first | exact (Kd.R_reads' HO132.out).2.2 | (with_reducible refine Kd.C_alloc ?_ _) | (with_reducible refine Kd.C_drewN ?_ _) | (with_reducible refine Kd.C_drew ?_)))
                          (case side2 => exact (Kd.R_reads' HO132.out).2.1)
                          (case side3 => repeat (first | exact (Kd.R_reads' HO138.out).2.2 | (with_reducible refine Kd.C_alloc ?_ _) | (with_reducible refine Kd.C_drewN ?_ _) | (with_reducible refine Kd.C_drew ?_)))
                          (case side4 => exact (Kd.R_reads' HO138.out).2.1)
                          rintro e w' ⟨rfl, ⟨nd, rfl⟩⟩
                          refine ⟨_, rfl, ?_⟩
                          go_wp2_with ((with_reducible refine gate_dst (N := 11) rfl ?_); (try (refine gate_guard (by rfl) ?_; dsimp only)); refine Aside0.out (p := _) ?_)
                          refine ⟨?_⟩
                          refine Kd.R_lit (Kd.int .i64) _ 3 ?hg (N := 11) ?hd (xs := ([(-5), 2000] : List Int)) (inner := [.int .i64 (-5), .int .i64 2000]) (ok := fun _ => True) (okp := fun _ => True) ?hr ?hp (fun _ hk => hk) trivial (Below.refl _ _) (Nat.le_refl _) (by simp) ?_; (case hd => rfl); (case hg => rfl); (case hr => first | (go_simp; done) | (go_simp; rfl)); (case hp => exact (Reps.one (show Kd.M (Kd.int .i64) _ _ _ (-5) [.int .i64 (-5)] from rfl) (Reps.one (show Kd.M (Kd.int .i64) _ _ _ 2000 [.int .i64 2000] from rfl) (Reps.none _ _))))
                          intro v141 w62 ho63 hb hg_ hnew_
                          clear hg_ hnew_
                          (first | rw [← Ny140.out] at ho63 | (simp only [Int.reduceToNat] at ho63; rw [← Ny140.out] at ho63))
                          have n1_ := Aside0.mk (Kd.R_below (by (with_reducible repeat (first | apply Kd.R_alloc | apply Kd.R_drewN | apply Kd.R_drew)); exact HO123.out) hb)
                          have n7_ := Aside0.mk (Kd.R_lower ho63 (below_size (by repeat (first | (with_reducible first | exact HB.out | apply below_alloc | apply pw_below_drewN | apply below_drew1) | exact HB.out))))
                          have n8_ := Aside0.mk (below_step (by repeat (first | (with_reducible first | exact HB.out | apply below_alloc | apply pw_below_drewN | apply below_drew1) | exact HB.out)) hb)
                          clear HO123
                          clear HO132
                          clear HO138
                          clear HB
                          have HO123 := n1_
                          have HO142 := n7_
                          have HB := n8_
                          clear n1_ n7_ n8_
                          clear hb ho63
                          obtain ⟨Ao64, co64, eo64⟩ := Kd.R_slice HO142.out
                          subst eo64
                          go_wp2_with (go_at_call 27; (with_reducible refine (testamurlaw03_list.calls k _ _ y140 t143 _ ?side1 ?side2 A7.out).mono ?_); (case side1 => repeat (first | exact (Kd.R_reads' HO142.out).2.2 | (with_reducible refine Kd.C_alloc ?_ _) | (with_reducible refine Kd.C_drewN ?_ _) | (with_reducible refine Kd.C_drew ?_))); (case side2 => exact (Kd.R_reads' HO142.out).2.1); refine Aside0.out (p := _) ?_)
                          refine ⟨?_⟩
                          rintro e w65 ⟨v144, rfl, ho0, hb⟩
                          have n1_ := Aside0.mk (Kd.R_elder' (by (with_reducible repeat (first | apply Kd.R_alloc | apply Kd.R_drewN | apply Kd.R_drew)); exact HO123.out) (Kd.R_base ho0) hb)
                          have n8_ := Aside0.mk (Kd.R_lower ho0 (below_size (by repeat (first | (with_reducible first | exact HB.out | apply below_alloc | apply pw_below_drewN | apply below_drew1) | exact HB.out))))
                          have n9_ := Aside0.mk (below_step (by repeat (first | (with_reducible first | exact HB.out | apply below_alloc | apply pw_below_drewN | apply below_drew1) | exact HB.out)) hb)
                          clear HO123
                          clear HO142
                          clear HB
                          have HO123 := n1_
                          have HO145 := n8_
                          have HB := n9_
                          clear n1_ n8_ n9_
                          (try clear hb)
                          (try clear hb2)
                          (try clear hk)
                          (try clear hi)
                          (try clear ho0)
                          obtain ⟨Ao66, co66, eo66⟩ := Kd.R_slice HO145.out
                          subst eo66
                          go_wp2_with (go_at_call 15; (with_reducible refine (spans_Normal.calls _ _ t143 t146 _ ?side1 ?side2 A8.out).mono ?_); (case side1 => repeat (first | exact (Kd.R_reads' HO145.out).2.2 | (with_reducible refine Kd.C_alloc ?_ _) | (with_reducible refine Kd.C_drewN ?_ _) | (with_reducible refine Kd.C_drew ?_))); (case side2 => exact (Kd.R_reads' HO145.out).2.1); refine Aside0.out (p := _) ?_)
                          refine ⟨?_⟩
                          rintro e w67 ⟨v147, rfl, ho0, hb⟩
                          have n1_ := Aside0.mk (Kd.R_elder' (by (with_reducible repeat (first | apply Kd.R_alloc | apply Kd.R_drewN | apply Kd.R_drew)); exact HO123.out) (Kd.R_base ho0) hb)
                          have n9_ := Aside0.mk (Kd.R_lower ho0 (below_size (by repeat (first | (with_reducible first | exact HB.out | apply below_alloc | apply pw_below_drewN | apply below_drew1) | exact HB.out))))
                          have n10_ := Aside0.mk (below_step (by repeat (first | (with_reducible first | exact HB.out | apply below_alloc | apply pw_below_drewN | apply below_drew1) | exact HB.out)) hb)
                          clear HO123
                          clear HO145
                          clear HB
                          have HO123 := n1_
                          have HO148 := n9_
                          have HB := n10_
                          clear n1_ n9_ n10_
                          (try clear hb)
                          (try clear hb2)
                          (try clear hk)
                          (try clear hi)
                          (try clear ho0)
                          obtain ⟨Ao68, co68, eo68⟩ := Kd.R_slice HO148.out
                          subst eo68
                          obtain ⟨Ao69, co69, eo69⟩ := Kd.R_slice HO123.out
                          subst eo69
                          go_wp2_with (go_at_call 14; (with_reducible refine (testamurref03_Same.calls k _ _ t146 _ _ t121 true _ ?side1 ?side2 ?side3 ?side4 A9.out).mono ?_); (case side1 => repeat (first | exact (Kd.R_reads' HO148.out).2.2 | (with_reducible refine Kd.C_alloc ?_ _) | (with_reducible refine Kd.C_drewN ?_ _) | (with_reducible refine Kd.C_drew ?_))); (case side2 => exact (Kd.R_reads' HO148.out).2.1); (case side3 => repeat (first | exact (Kd.R_reads' HO123.out).2.2 | (with_reducible refine Kd.C_alloc ?_ _) | (with_reducible refine Kd.C_drewN ?_ _) | (with_reducible refine Kd.C_drew ?_))); (case side4 => exact (Kd.R_reads' HO123.out).2.1); refine Aside0.out (p := _) ?_)
                          refine ⟨?_⟩
                          rintro e w' ⟨rfl, ⟨nd, rfl⟩⟩
                          go_wp2_with ((with_reducible refine gate_dst (N := 18) rfl ?_); (try (refine gate_guard (by rfl) ?_; dsimp only)); refine Aside0.out (p := _) ?_)
                          refine ⟨?_⟩
                          refine Kd.R_lit (Kd.int .i64) _ 3 ?hg (N := 18) ?hd (xs := ([5, 5] : List Int)) (inner := [.int .i64 5, .int .i64 5]) (ok := fun _ => True) (okp := fun _ => True) ?hr ?hp (fun _ hk => hk) trivial (Below.refl _ _) (Nat.le_refl _) (by simp) ?_; (case hd => rfl); (case hg => rfl); (case hr => first | (go_simp; done) | (go_simp; rfl)); (case hp => exact (Reps.one (show Kd.M (Kd.int .i64) _ _ _ 5 [.int .i64 5] from rfl) (Reps.one (show Kd.M (Kd.int .i64) _ _ _ 5 [.int .i64 5] from rfl) (Reps.none _ _))))
                          intro v151 w70 ho71 hb hg_ hnew_
                          clear hg_ hnew_
                          (first | rw [← Ny150.out] at ho71 | (simp only [Int.reduceToNat] at ho71; rw [← Ny150.out] at ho71))
                          have n1_ := Aside0.mk (Kd.R_below (by (with_reducible repeat (first | apply Kd.R_alloc | apply Kd.R_drewN | apply Kd.R_drew)); exact HO123.out) hb)
                          have n10_ := Aside0.mk (Kd.R_lower ho71 (below_size (by repeat (first | (with_reducible first | exact HB.out | apply below_alloc | apply pw_below_drewN | apply below_drew1) | exact HB.out))))
                          have n11_ := Aside0.mk (below_step (by repeat (first | (with_reducible first | exact HB.out | apply below_alloc | apply pw_below_drewN | apply below_drew1) | exact HB.out)) hb)
                          clear HO123
                          clear HO148
                          clear HB
                          have HO123 := n1_
                          have HO152 := n10_
                          have HB := n11_
                          clear n1_ n10_ n11_
                          clear hb ho71
                          obtain ⟨Ao72, co72, eo72⟩ := Kd.R_slice HO152.out
                          subst eo72
                          go_wp2_with (go_at_call 27; (with_reducible refine (testamurlaw03_list.calls k _ _ y150 t153 _ ?side1 ?side2 A11.out).mono ?_); (case side1 => repeat (first | exact (Kd.R_reads' HO152.out).2.2 | (with_reducible refine Kd.C_alloc ?_ _) | (with_reducible refine Kd.C_drewN ?_ _) | (with_reducible refine Kd.C_drew ?_))); (case side2 => exact (Kd.R_reads' HO152.out).2.1); refine Aside0.out (p := _) ?_)
                          refine ⟨?_⟩
                          rintro e w73 ⟨v154, rfl, ho0, hb⟩
                          have n1_ := Aside0.mk (Kd.R_elder' (by (with_reducible repeat (first | apply Kd.R_alloc | apply Kd.R_drewN | apply Kd.R_drew)); exact HO123.out) (Kd.R_base ho0) hb)
                          have n11_ := Aside0.mk (Kd.R_lower ho0 (below_size (by repeat (first | (with_reducible first | exact HB.out | apply below_alloc | apply pw_below_drewN | apply below_drew1) | exact HB.out))))
                          have n12_ := Aside0.mk (below_step (by repeat (first | (with_reducible first | exact HB.out | apply below_alloc | apply pw_below_drewN | apply below_drew1) | exact HB.out)) hb)
                          clear HO123
                          clear HO152
                          clear HB
                          have HO123 := n1_
                          have HO155 := n11_
                          have HB := n12_
                          clear n1_ n11_ n12_
                          (try clear hb)
                          (try clear hb2)
                          (try clear hk)
                          (try clear hi)
                          (try clear ho0)
                          obtain ⟨Ao74, co74, eo74⟩ := Kd.R_slice HO155.out
                          subst eo74
                          go_wp2_with (go_at_call 15; (with_reducible refine (spans_Normal.calls _ _ t153 t156 _ ?side1 ?side2 A12.out).mono ?_); (case side1 => repeat (first | exact (Kd.R_reads' HO155.out).2.2 | (with_reducible refine Kd.C_alloc ?_ _) | (with_reducible refine Kd.C_drewN ?_ _) | (with_reducible refine Kd.C_drew ?_))); (case side2 => exact (Kd.R_reads' HO155.out).2.1); refine Aside0.out (p := _) ?_)
                          refine ⟨?_⟩
                          rintro e w75 ⟨v157, rfl, ho0, hb⟩
                          have n1_ := Aside0.mk (Kd.R_elder' (by (with_reducible repeat (first | apply Kd.R_alloc | apply Kd.R_drewN | apply Kd.R_drew)); exact HO123.out) (Kd.R_base ho0) hb)
                          have n12_ := Aside0.mk (Kd.R_lower ho0 (below_size (by repeat (first | (with_reducible first | exact HB.out | apply below_alloc | apply pw_below_drewN | apply below_drew1) | exact HB.out))))
                          have n13_ := Aside0.mk (below_step (by repeat (first | (with_reducible first | exact HB.out | apply below_alloc | apply pw_below_drewN | apply below_drew1) | exact HB.out)) hb)
                          clear HO123
                          clear HO155
                          clear HB
                          have HO123 := n1_
                          have HO158 := n12_
                          have HB := n13_
                          clear n1_ n12_ n13_
                          (try clear hb)
                          (try clear hb2)
                          (try clear hk)
                          (try clear hi)
                          (try clear ho0)
                          obtain ⟨Ao76, co76, eo76⟩ := Kd.R_slice HO158.out
                          subst eo76
                          go_wp2_with ((with_reducible refine gate_dst (N := 26) rfl ?_); (try (refine gate_guard (by rfl) ?_; dsimp only)); refine Aside0.out (p := _) ?_)
                          refine ⟨?_⟩
                          refine Kd.R_lit (Kd.int .i64) _ 3 ?hg (N := 26) ?hd (xs := ([0, 10] : List Int)) (inner := [.int .i64 0, .int .i64 10]) (ok := fun _ => True) (okp := fun _ => True) ?hr ?hp (fun _ hk => hk) trivial (Below.refl _ _) (Nat.le_refl _) (by simp) ?_; (case hd => rfl); (case hg => rfl); (case hr => first | (go_simp; done) | (go_simp; rfl)); (case hp => exact (Reps.one (show Kd.M (Kd.int .i64) _ _ _ 0 [.int .i64 0] from rfl) (Reps.one (show Kd.M (Kd.int .i64) _ _ _ 10 [.int .i64 10] from rfl) (Reps.none _ _))))
                          intro v160 w77 ho78 hb hg_ hnew_
                          clear hg_ hnew_
                          (first | rw [← Ny159.out] at ho78 | (simp only [Int.reduceToNat] at ho78; rw [← Ny159.out] at ho78))
                          have n1_ := Aside0.mk (Kd.R_below (by (with_reducible repeat (first | apply Kd.R_alloc | apply Kd.R_drewN | apply Kd.R_drew)); exact HO123.out) hb)
                          have n13_ := Aside0.mk (Kd.R_lower ho78 (below_size (by repeat (first | (with_reducible first | exact HB.out | apply below_alloc | apply pw_below_drewN | apply below_drew1) | exact HB.out))))
                          have n14_ := Aside0.mk (below_step (by repeat (first | (with_reducible first | exact HB.out | apply below_alloc | apply pw_below_drewN | apply below_drew1) | exact HB.out)) hb)
                          clear HO123
                          clear HO158
                          clear HB
                          have HO123 := n1_
                          have HO161 := n13_
                          have HB := n14_
                          clear n1_ n13_ n14_
                          clear hb ho78
                          obtain ⟨Ao79, co79, eo79⟩ := Kd.R_slice HO161.out
                          subst eo79
                          go_wp2_with (go_at_call 27; (with_reducible refine (testamurlaw03_list.calls k _ _ y159 t162 _ ?side1 ?side2 A14.out).mono ?_); (case side1 => repeat (first | exact (Kd.R_reads' HO161.out).2.2 | (with_reducible refine Kd.C_alloc ?_ _) | (with_reducible refine Kd.C_drewN ?_ _) | (with_reducible refine Kd.C_drew ?_))); (case side2 => exact (Kd.R_reads' HO161.out).2.1); refine Aside0.out (p := _) ?_)
                          refine ⟨?_⟩
                          rintro e w80 ⟨v163, rfl, ho0, hb⟩
                          have n1_ := Aside0.mk (Kd.R_elder' (by (with_reducible repeat (first | apply Kd.R_alloc | apply Kd.R_drewN | apply Kd.R_drew)); exact HO123.out) (Kd.R_base ho0) hb)
                          have n14_ := Aside0.mk (Kd.R_lower ho0 (below_size (by repeat (first | (with_reducible first | exact HB.out | apply below_alloc | apply pw_below_drewN | apply below_drew1) | exact HB.out))))
                          have n15_ := Aside0.mk (below_step (by repeat (first | (with_reducible first | exact HB.out | apply below_alloc | apply pw_below_drewN | apply below_drew1) | exact HB.out)) hb)
                          clear HO123
                          clear HO161
                          clear HB
                          have HO123 := n1_
                          have HO164 := n14_
                          have HB := n15_
                          clear n1_ n14_ n15_
                          (try clear hb)
                          (try clear hb2)
                          (try clear hk)
                          (try clear hi)
                          (try clear ho0)
                          obtain ⟨Ao81, co81, eo81⟩ := Kd.R_slice HO164.out
                          subst eo81
                          go_wp2_with (go_at_call 21; (with_reducible refine (spans_Minus.calls _ _ t121 _ _ t162 t165 _ ?side1 ?side2 ?side3 ?side4 A15.out).mono ?_); (case side1 => repeat (first | exact (Kd.R_reads' HO123.out).2.2 | (with_reducible refine Kd.C_alloc ?_ _) | (with_reducible refine Kd.C_drewN ?_ _) | (with_reducible refine Kd.C_drew ?_))); (case side2 => exact (Kd.R_reads' HO123.out).2.1); (case side3 => repeat (first | exact (Kd.R_reads' HO164.out).2.2 | (with_reducible refine Kd.C_alloc ?_ _) | (with_reducible refine Kd.C_drewN ?_ _) | (with_reducible refine Kd.C_drew ?_))); (case side4 => exact (Kd.R_reads' HO164.out).2.1); refine Aside0.out (p := _) ?_)
                          refine ⟨?_⟩
                          rintro e w82 ⟨v166, rfl, ho0, hb⟩
                          have n1_ := Aside0.mk (Kd.R_elder' (by (with_reducible repeat (first | apply Kd.R_alloc | apply Kd.R_drewN | apply Kd.R_drew)); exact HO123.out) (Kd.R_base ho0) hb)
                          have n15_ := Aside0.mk (Kd.R_lower ho0 (below_size (by repeat (first | (with_reducible first | exact HB.out | apply below_alloc | apply pw_below_drewN | apply below_drew1) | exact HB.out))))
                          have n16_ := Aside0.mk (below_step (by repeat (first | (with_reducible first | exact HB.out | apply below_alloc | apply pw_below_drewN | apply below_drew1) | exact HB.out)) hb)
                          clear HO123
                          clear HO164
                          clear HB
                          have HO123 := n1_
                          have HO167 := n15_
                          have HB := n16_
                          clear n1_ n15_ n16_
                          (try clear hb)
                          (try clear hb2)
                          (try clear hk)
                          (try clear hi)
                          (try clear ho0)
                          go_wp2_with ((with_reducible refine gate_dst (N := 29) rfl ?_); (try (refine gate_guard (by rfl) ?_; dsimp only)); refine Aside0.out (p := _) ?_)
                          refine ⟨?_⟩
                          refine Kd.R_lit (Kd.int .i64) _ 3 ?hg (N := 29) ?hd (xs := ([10, 1024] : List Int)) (inner := [.int .i64 10, .int .i64 1024]) (ok := fun _ => True) (okp := fun _ => True) ?hr ?hp (fun _ hk => hk) trivial (Below.refl _ _) (Nat.le_refl _) (by simp) ?_; (case hd => rfl); (case hg => rfl); (case hr => first | (go_simp; done) | (go_simp; rfl)); (case hp => exact (Reps.one (show Kd.M (Kd.int .i64) _ _ _ 10 [.int .i64 10] from rfl) (Reps.one (show Kd.M (Kd.int .i64) _ _ _ 1024 [.int .i64 1024] from rfl) (Reps.none _ _))))
                          intro v169 w83 ho84 hb hg_ hnew_
                          clear hg_ hnew_
                          (first | rw [← Ny168.out] at ho84 | (simp only [Int.reduceToNat] at ho84; rw [← Ny168.out] at ho84))
                          have n1_ := Aside0.mk (Kd.R_below (by (with_reducible repeat (first | apply Kd.R_alloc | apply Kd.R_drewN | apply Kd.R_drew)); exact HO123.out) hb)
                          have n15_ := Aside0.mk (Kd.R_below (by (with_reducible repeat (first | apply Kd.R_alloc | apply Kd.R_drewN | apply Kd.R_drew)); exact HO167.out) hb)
                          have n16_ := Aside0.mk (Kd.R_lower ho84 (below_size (by repeat (first | (with_reducible first | exact HB.out | apply below_alloc | apply pw_below_drewN | apply below_drew1) | exact HB.out))))
                          have n17_ := Aside0.mk (below_step (by repeat (first | (with_reducible first | exact HB.out | apply below_alloc | apply pw_below_drewN | apply below_drew1) | exact HB.out)) hb)
                          clear HO123
                          clear HO167
                          clear HB
                          have HO123 := n1_
                          have HO167 := n15_
                          have HO170 := n16_
                          have HB := n17_
                          clear n1_ n15_ n16_ n17_
                          clear hb ho84
                          obtain ⟨Ao85, co85, eo85⟩ := Kd.R_slice HO170.out
                          subst eo85
                          go_wp2_with (go_at_call 27; (with_reducible refine (testamurlaw03_list.calls k _ _ y168 t171 _ ?side1 ?side2 A16.out).mono ?_); (case side1 => repeat (first | exact (Kd.R_reads' HO170.out).2.2 | (with_reducible refine Kd.C_alloc ?_ _) | (with_reducible refine Kd.C_drewN ?_ _) | (with_reducible refine Kd.C_drew ?_))); (case side2 => exact (Kd.R_reads' HO170.out).2.1); refine Aside0.out (p := _) ?_)
                          refine ⟨?_⟩
                          rintro e w86 ⟨v172, rfl, ho0, hb⟩
                          have n1_ := Aside0.mk (Kd.R_elder' (by (with_reducible repeat (first | apply Kd.R_alloc | apply Kd.R_drewN | apply Kd.R_drew)); exact HO123.out) (Kd.R_base ho0) hb)
                          have n15_ := Aside0.mk (Kd.R_elder' (by (with_reducible repeat (first | apply Kd.R_alloc | apply Kd.R_drewN | apply Kd.R_drew)); exact HO167.out) (Kd.R_base ho0) hb)
                          have n17_ := Aside0.mk (Kd.R_lower ho0 (below_size (by repeat (first | (with_reducible first | exact HB.out | apply below_alloc | apply pw_below_drewN | apply below_drew1) | exact HB.out))))
                          have n18_ := Aside0.mk (below_step (by repeat (first | (with_reducible first | exact HB.out | apply below_alloc | apply pw_below_drewN | apply below_drew1) | exact HB.out)) hb)
                          clear HO123
                          clear HO167
                          clear HO170
                          clear HB
                          have HO123 := n1_
                          have HO167 := n15_
                          have HO173 := n17_
                          have HB := n18_
                          clear n1_ n15_ n17_ n18_
                          (try clear hb)
                          (try clear hb2)
                          (try clear hk)
                          (try clear hi)
                          (try clear ho0)
                          obtain ⟨Ao87, co87, eo87⟩ := Kd.R_slice HO167.out
                          subst eo87
                          obtain ⟨Ao88, co88, eo88⟩ := Kd.R_slice HO173.out
                          subst eo88
                          go_wp2_with (go_at_call 14; (with_reducible refine (testamurref03_Same.calls k _ _ t165 _ _ t171 true _ ?side1 ?side2 ?side3 ?side4 A17.out).mono ?_); (case side1 => repeat (first | exact (Kd.R_reads' HO167.out).2.2 | (with_reducible refine Kd.C_alloc ?_ _) | (with_reducible refine Kd.C_drewN ?_ _) | (with_reducible refine Kd.C_drew ?_))); (case side2 => exact (Kd.R_reads' HO167.out).2.1); (case side3 => repeat (first | exact (Kd.R_reads' HO173.out).2.2 | (with_reducible refine Kd.C_alloc ?_ _) | (with_reducible refine Kd.C_drewN ?_ _) | (with_reducible refine Kd.C_drew ?_))); (case side4 => exact (Kd.R_reads' HO173.out).2.1); refine Aside0.out (p := _) ?_)
                          refine ⟨?_⟩
                          rintro e w' ⟨rfl, ⟨nd, rfl⟩⟩
                          go_wp2_with ((with_reducible refine gate_dst (N := 34) rfl ?_); (try (refine gate_guard (by rfl) ?_; dsimp only)); refine Aside0.out (p := _) ?_)
                          refine ⟨?_⟩
                          refine Kd.R_lit (Kd.int .i64) _ 3 ?hg (N := 34) ?hd (xs := ([3, 4] : List Int)) (inner := [.int .i64 3, .int .i64 4]) (ok := fun _ => True) (okp := fun _ => True) ?hr ?hp (fun _ hk => hk) trivial (Below.refl _ _) (Nat.le_refl _) (by simp) ?_; (case hd => rfl); (case hg => rfl); (case hr => first | (go_simp; done) | (go_simp; rfl)); (case hp => exact (Reps.one (show Kd.M (Kd.int .i64) _ _ _ 3 [.int .i64 3] from rfl) (Reps.one (show Kd.M (Kd.int .i64) _ _ _ 4 [.int .i64 4] from rfl) (Reps.none _ _))))
                          intro v176 w89 ho90 hb hg_ hnew_
                          clear hg_ hnew_
                          (first | rw [← Ny175.out] at ho90 | (simp only [Int.reduceToNat] at ho90; rw [← Ny175.out] at ho90))
                          have n1_ := Aside0.mk (Kd.R_below (by (with_reducible repeat (first | apply Kd.R_alloc | apply Kd.R_drewN | apply Kd.R_drew)); exact HO123.out) hb)
                          have n18_ := Aside0.mk (Kd.R_lower ho90 (below_size (by repeat (first | (with_reducible first | exact HB.out | apply below_alloc | apply pw_below_drewN | apply below_drew1) | exact HB.out))))
                          have n19_ := Aside0.mk (below_step (by repeat (first | (with_reducible first | exact HB.out | apply below_alloc | apply pw_below_drewN | apply below_drew1) | exact HB.out)) hb)
                          clear HO123
                          clear HO167
                          clear HO173
                          clear HB
                          have HO123 := n1_
                          have HO177 := n18_
                          have HB := n19_
                          clear n1_ n18_ n19_
                          clear hb ho90
                          obtain ⟨Ao91, co91, eo91⟩ := Kd.R_slice HO177.out
                          subst eo91
                          go_wp2_with (go_at_call 27; (with_reducible refine (testamurlaw03_list.calls k _ _ y175 t178 _ ?side1 ?side2 A19.out).mono ?_); (case side1 => repeat (first | exact (Kd.R_reads' HO177.out).2.2 | (with_reducible refine Kd.C_alloc ?_ _) | (with_reducible refine Kd.C_drewN ?_ _) | (with_reducible refine Kd.C_drew ?_))); (case side2 => exact (Kd.R_reads' HO177.out).2.1); refine Aside0.out (p := _) ?_)
                          refine ⟨?_⟩
                          rintro e w92 ⟨v179, rfl, ho0, hb⟩
                          have n1_ := Aside0.mk (Kd.R_elder' (by (with_reducible repeat (first | apply Kd.R_alloc | apply Kd.R_drewN | apply Kd.R_drew)); exact HO123.out) (Kd.R_base ho0) hb)
                          have n19_ := Aside0.mk (Kd.R_lower ho0 (below_size (by repeat (first | (with_reducible first | exact HB.out | apply below_alloc | apply pw_below_drewN | apply below_drew1) | exact HB.out))))
                          have n20_ := Aside0.mk (below_step (by repeat (first | (with_reducible first | exact HB.out | apply below_alloc | apply pw_below_drewN | apply below_drew1) | exact HB.out)) hb)
                          clear HO123
                          clear HO177
                          clear HB
                          have HO123 := n1_
                          have HO180 := n19_
                          have HB := n20_
                          clear n1_ n19_ n20_
                          (try clear hb)
                          (try clear hb2)
                          (try clear hk)
                          (try clear hi)
                          (try clear ho0)
                          go_wp2_with ((with_reducible refine gate_dst (N := 36) rfl ?_); (try (refine gate_guard (by rfl) ?_; dsimp only)); refine Aside0.out (p := _) ?_)
                          refine ⟨?_⟩
                          refine Kd.R_lit (Kd.int .i64) _ 3 ?hg (N := 36) ?hd (xs := ([4, 5] : List Int)) (inner := [.int .i64 4, .int .i64 5]) (ok := fun _ => True) (okp := fun _ => True) ?hr ?hp (fun _ hk => hk) trivial (Below.refl _ _) (Nat.le_refl _) (by simp) ?_; (case hd => rfl); (case hg => rfl); (case hr => first | (go_simp; done) | (go_simp; rfl)); (case hp => exact (Reps.one (show Kd.M (Kd.int .i64) _ _ _ 4 [.int .i64 4] from rfl) (Reps.one (show Kd.M (Kd.int .i64) _ _ _ 5 [.int .i64 5] from rfl) (Reps.none _ _))))
                          intro v182 w93 ho94 hb hg_ hnew_
                          clear hg_ hnew_
                          (first | rw [← Ny181.out] at ho94 | (simp only [Int.reduceToNat] at ho94; rw [← Ny181.out] at ho94))
                          have n1_ := Aside0.mk (Kd.R_below (by (with_reducible repeat (first | apply Kd.R_alloc | apply Kd.R_drewN | apply Kd.R_drew)); exact HO123.out) hb)
                          have n19_ := Aside0.mk (Kd.R_below (by (with_reducible repeat (first | apply Kd.R_alloc | apply Kd.R_drewN | apply Kd.R_drew)); exact HO180.out) hb)
                          have n20_ := Aside0.mk (Kd.R_lower ho94 (below_size (by repeat (first | (with_reducible first | exact HB.out | apply below_alloc | apply pw_below_drewN | apply below_drew1) | exact HB.out))))
                          have n21_ := Aside0.mk (below_step (by repeat (first | (with_reducible first | exact HB.out | apply below_alloc | apply pw_below_drewN | apply below_drew1) | exact HB.out)) hb)
                          clear HO123
                          clear HO180
                          clear HB
                          have HO123 := n1_
                          have HO180 := n19_
                          have HO183 := n20_
                          have HB := n21_
                          clear n1_ n19_ n20_ n21_
                          clear hb ho94
                          obtain ⟨Ao95, co95, eo95⟩ := Kd.R_slice HO183.out
                          subst eo95
                          go_wp2_with (go_at_call 27; (with_reducible refine (testamurlaw03_list.calls k _ _ y181 t184 _ ?side1 ?side2 A20.out).mono ?_); (case side1 => repeat (first | exact (Kd.R_reads' HO183.out).2.2 | (with_reducible refine Kd.C_alloc ?_ _) | (with_reducible refine Kd.C_drewN ?_ _) | (with_reducible refine Kd.C_drew ?_))); (case side2 => exact (Kd.R_reads' HO183.out).2.1); refine Aside0.out (p := _) ?_)
                          refine ⟨?_⟩
                          rintro e w96 ⟨v185, rfl, ho0, hb⟩
                          have n1_ := Aside0.mk (Kd.R_elder' (by (with_reducible repeat (first | apply Kd.R_alloc | apply Kd.R_drewN | apply Kd.R_drew)); exact HO123.out) (Kd.R_base ho0) hb)
                          have n19_ := Aside0.mk (Kd.R_elder' (by (with_reducible repeat (first | apply Kd.R_alloc | apply Kd.R_drewN | apply Kd.R_drew)); exact HO180.out) (Kd.R_base ho0) hb)
                          have n21_ := Aside0.mk (Kd.R_lower ho0 (below_size (by repeat (first | (with_reducible first | exact HB.out | apply below_alloc | apply pw_below_drewN | apply below_drew1) | exact HB.out))))
                          have n22_ := Aside0.mk (below_step (by repeat (first | (with_reducible first | exact HB.out | apply below_alloc | apply pw_below_drewN | apply below_drew1) | exact HB.out)) hb)
                          clear HO123
                          clear HO180
                          clear HO183
                          clear HB
                          have HO123 := n1_
                          have HO180 := n19_
                          have HO186 := n21_
                          have HB := n22_
                          clear n1_ n19_ n21_ n22_
                          (try clear hb)
                          (try clear hb2)
                          (try clear hk)
                          (try clear hi)
                          (try clear ho0)
                          obtain ⟨Ao97, co97, eo97⟩ := Kd.R_slice HO180.out
                          subst eo97
                          obtain ⟨Ao98, co98, eo98⟩ := Kd.R_slice HO186.out
                          subst eo98
                          go_wp2_with (go_at_call 17; (with_reducible refine (spans_Union.calls _ _ t178 _ _ t184 t187 _ ?side1 ?side2 ?side3 ?side4 A21.out).mono ?_); (case side1 => repeat (first | exact (Kd.R_reads' HO180.out).2.2 | (with_reducible refine Kd.C_alloc ?_ _) | (with_reducible refine Kd.C_drewN ?_ _) | (with_reducible refine Kd.C_drew ?_))); (case side2 => exact (Kd.R_reads' HO180.out).2.1); (case side3 => repeat (first | exact (Kd.R_reads' HO186.out).2.2 | (with_reducible refine Kd.C_alloc ?_ _) | (with_reducible refine Kd.C_drewN ?_ _) | (with_reducible refine Kd.C_drew ?_))); (case side4 => exact (Kd.R_reads' HO186.out).2.1); refine Aside0.out (p := _) ?_)
                          refine ⟨?_⟩
                          rintro e w99 ⟨v188, rfl, ho0, hb⟩
                          have n1_ := Aside0.mk (Kd.R_elder' (by (with_reducible repeat (first | apply Kd.R_alloc | apply Kd.R_drewN | apply Kd.R_drew)); exact HO123.out) (Kd.R_base ho0) hb)
                          have n22_ := Aside0.mk (Kd.R_lower ho0 (below_size (by repeat (first | (with_reducible first | exact HB.out | apply below_alloc | apply pw_below_drewN | apply below_drew1) | exact HB.out))))
                          have n23_ := Aside0.mk (below_step (by repeat (first | (with_reducible first | exact HB.out | apply below_alloc | apply pw_below_drewN | apply below_drew1) | exact HB.out)) hb)
                          clear HO123
                          clear HO180
                          clear HO186
                          clear HB
                          have HO123 := n1_
                          have HO189 := n22_
                          have HB := n23_
                          clear n1_ n22_ n23_
                          (try clear hb)
                          (try clear hb2)
                          (try clear hk)
                          (try clear hi)
                          (try clear ho0)
                          go_wp2_with ((with_reducible refine gate_dst (N := 39) rfl ?_); (try (refine gate_guard (by rfl) ?_; dsimp only)); refine Aside0.out (p := _) ?_)
                          refine ⟨?_⟩
                          refine Kd.R_lit (Kd.int .i64) _ 3 ?hg (N := 39) ?hd (xs := ([3, 5] : List Int)) (inner := [.int .i64 3, .int .i64 5]) (ok := fun _ => True) (okp := fun _ => True) ?hr ?hp (fun _ hk => hk) trivial (Below.refl _ _) (Nat.le_refl _) (by simp) ?_; (case hd => rfl); (case hg => rfl); (case hr => first | (go_simp; done) | (go_simp; rfl)); (case hp => exact (Reps.one (show Kd.M (Kd.int .i64) _ _ _ 3 [.int .i64 3] from rfl) (Reps.one (show Kd.M (Kd.int .i64) _ _ _ 5 [.int .i64 5] from rfl) (Reps.none _ _))))
                          intro v191 w100 ho101 hb hg_ hnew_
                          clear hg_ hnew_
                          (first | rw [← Ny190.out] at ho101 | (simp only [Int.reduceToNat] at ho101; rw [← Ny190.out] at ho101))
                          have n1_ := Aside0.mk (Kd.R_below (by (with_reducible repeat (first | apply Kd.R_alloc | apply Kd.R_drewN | apply Kd.R_drew)); exact HO123.out) hb)
                          have n22_ := Aside0.mk (Kd.R_below (by (with_reducible repeat (first | apply Kd.R_alloc | apply Kd.R_drewN | apply Kd.R_drew)); exact HO189.out) hb)
                          have n23_ := Aside0.mk (Kd.R_lower ho101 (below_size (by repeat (first | (with_reducible first | exact HB.out | apply below_alloc | apply pw_below_drewN | apply below_drew1) | exact HB.out))))
                          have n24_ := Aside0.mk (below_step (by repeat (first | (with_reducible first | exact HB.out | apply below_alloc | apply pw_below_drewN | apply below_drew1) | exact HB.out)) hb)
                          clear HO123
                          clear HO189
                          clear HB
                          have HO123 := n1_
                          have HO189 := n22_
                          have HO192 := n23_
                          have HB := n24_
                          clear n1_ n22_ n23_ n24_
                          clear hb ho101
                          obtain ⟨Ao102, co102, eo102⟩ := Kd.R_slice HO192.out
                          subst eo102
                          go_wp2_with (go_at_call 27; (with_reducible refine (testamurlaw03_list.calls k _ _ y190 t193 _ ?side1 ?side2 A22.out).mono ?_); (case side1 => repeat (first | exact (Kd.R_reads' HO192.out).2.2 | (with_reducible refine Kd.C_alloc ?_ _) | (with_reducible refine Kd.C_drewN ?_ _) | (with_reducible refine Kd.C_drew ?_))); (case side2 => exact (Kd.R_reads' HO192.out).2.1); refine Aside0.out (p := _) ?_)
                          refine ⟨?_⟩
                          rintro e w103 ⟨v194, rfl, ho0, hb⟩
                          have n1_ := Aside0.mk (Kd.R_elder' (by (with_reducible repeat (first | apply Kd.R_alloc | apply Kd.R_drewN | apply Kd.R_drew)); exact HO123.out) (Kd.R_base ho0) hb)
                          have n22_ := Aside0.mk (Kd.R_elder' (by (with_reducible repeat (first | apply Kd.R_alloc | apply Kd.R_drewN | apply Kd.R_drew)); exact HO189.out) (Kd.R_base ho0) hb)
                          have n24_ := Aside0.mk (Kd.R_lower ho0 (below_size (by repeat (first | (with_reducible first | exact HB.out | apply below_alloc | apply pw_below_drewN | apply below_drew1) | exact HB.out))))
                          have n25_ := Aside0.mk (below_step (by repeat (first | (with_reducible first | exact HB.out | apply below_alloc | apply pw_below_drewN | apply below_drew1) | exact HB.out)) hb)
                          clear HO123
                          clear HO189
                          clear HO192
                          clear HB
                          have HO123 := n1_
                          have HO189 := n22_
                          have HO195 := n24_
                          have HB := n25_
                          clear n1_ n22_ n24_ n25_
                          (try clear hb)
                          (try clear hb2)
                          (try clear hk)
                          (try clear hi)
                          (try clear ho0)
                          obtain ⟨Ao104, co104, eo104⟩ := Kd.R_slice HO189.out
                          subst eo104
                          obtain ⟨Ao105, co105, eo105⟩ := Kd.R_slice HO195.out
                          subst eo105
                          go_wp2_with (go_at_call 14; (with_reducible refine (testamurref03_Same.calls k _ _ t187 _ _ t193 true _ ?side1 ?side2 ?side3 ?side4 A23.out).mono ?_); (case side1 => repeat (first | exact (Kd.R_reads' HO189.out).2.2 | (with_reducible refine Kd.C_alloc ?_ _) | (with_reducible refine Kd.C_drewN ?_ _) | (with_reducible refine Kd.C_drew ?_))); (case side2 => exact (Kd.R_reads' HO189.out).2.1); (case side3 => repeat (first | exact (Kd.R_reads' HO195.out).2.2 | (with_reducible refine Kd.C_alloc ?_ _) | (with_reducible refine Kd.C_drewN ?_ _) | (with_reducible refine Kd.C_drew ?_))); (case side4 => exact (Kd.R_reads' HO195.out).2.1); refine Aside0.out (p := _) ?_)
                          refine ⟨?_⟩
                          rintro e w' ⟨rfl, ⟨nd, rfl⟩⟩
                          go_wp2_with ((with_reducible refine gate_dst (N := 44) rfl ?_); (try (refine gate_guard (by rfl) ?_; dsimp only)); refine Aside0.out (p := _) ?_)
                          refine ⟨?_⟩
                          refine Kd.R_lit (Kd.int .i64) _ 3 ?hg (N := 44) ?hd (xs := ([3, 9] : List Int)) (inner := [.int .i64 3, .int .i64 9]) (ok := fun _ => True) (okp := fun _ => True) ?hr ?hp (fun _ hk => hk) trivial (Below.refl _ _) (Nat.le_refl _) (by simp) ?_; (case hd => rfl); (case hg => rfl); (case hr => first | (go_simp; done) | (go_simp; rfl)); (case hp => exact (Reps.one (show Kd.M (Kd.int .i64) _ _ _ 3 [.int .i64 3] from rfl) (Reps.one (show Kd.M (Kd.int .i64) _ _ _ 9 [.int .i64 9] from rfl) (Reps.none _ _))))
                          intro v198 w106 ho107 hb hg_ hnew_
                          clear hg_ hnew_
                          (first | rw [← Ny197.out] at ho107 | (simp only [Int.reduceToNat] at ho107; rw [← Ny197.out] at ho107))
                          have n1_ := Aside0.mk (Kd.R_below (by (with_reducible repeat (first | apply Kd.R_alloc | apply Kd.R_drewN | apply Kd.R_drew)); exact HO123.out) hb)
                          have n25_ := Aside0.mk (Kd.R_lower ho107 (below_size (by repeat (first | (with_reducible first | exact HB.out | apply below_alloc | apply pw_below_drewN | apply below_drew1) | exact HB.out))))
                          have n26_ := Aside0.mk (below_step (by repeat (first | (with_reducible first | exact HB.out | apply below_alloc | apply pw_below_drewN | apply below_drew1) | exact HB.out)) hb)
                          clear HO123
                          clear HO189
                          clear HO195
                          clear HB
                          have HO123 := n1_
                          have HO199 := n25_
                          have HB := n26_
                          clear n1_ n25_ n26_
                          clear hb ho107
                          obtain ⟨Ao108, co108, eo108⟩ := Kd.R_slice HO199.out
                          subst eo108
                          go_wp2_with (go_at_call 27; (with_reducible refine (testamurlaw03_list.calls k _ _ y197 t200 _ ?side1 ?side2 A25.out).mono ?_); (case side1 => repeat (first | exact (Kd.R_reads' HO199.out).2.2 | (with_reducible refine Kd.C_alloc ?_ _) | (with_reducible refine Kd.C_drewN ?_ _) | (with_reducible refine Kd.C_drew ?_))); (case side2 => exact (Kd.R_reads' HO199.out).2.1); refine Aside0.out (p := _) ?_)
                          refine ⟨?_⟩
                          rintro e w109 ⟨v201, rfl, ho0, hb⟩
                          have n1_ := Aside0.mk (Kd.R_elder' (by (with_reducible repeat (first | apply Kd.R_alloc | apply Kd.R_drewN | apply Kd.R_drew)); exact HO123.out) (Kd.R_base ho0) hb)
                          have n26_ := Aside0.mk (Kd.R_lower ho0 (below_size (by repeat (first | (with_reducible first | exact HB.out | apply below_alloc | apply pw_below_drewN | apply below_drew1) | exact HB.out))))
                          have n27_ := Aside0.mk (below_step (by repeat (first | (with_reducible first | exact HB.out | apply below_alloc | apply pw_below_drewN | apply below_drew1) | exact HB.out)) hb)
                          clear HO123
                          clear HO199
                          clear HB
                          have HO123 := n1_
                          have HO202 := n26_
                          have HB := n27_
                          clear n1_ n26_ n27_
                          (try clear hb)
                          (try clear hb2)
                          (try clear hk)
                          (try clear hi)
                          (try clear ho0)
                          go_wp2_with ((with_reducible refine gate_dst (N := 46) rfl ?_); (try (refine gate_guard (by rfl) ?_; dsimp only)); refine Aside0.out (p := _) ?_)
                          refine ⟨?_⟩
                          refine Kd.R_lit (Kd.int .i64) _ 3 ?hg (N := 46) ?hd (xs := ([5, 12] : List Int)) (inner := [.int .i64 5, .int .i64 12]) (ok := fun _ => True) (okp := fun _ => True) ?hr ?hp (fun _ hk => hk) trivial (Below.refl _ _) (Nat.le_refl _) (by simp) ?_; (case hd => rfl); (case hg => rfl); (case hr => first | (go_simp; done) | (go_simp; rfl)); (case hp => exact (Reps.one (show Kd.M (Kd.int .i64) _ _ _ 5 [.int .i64 5] from rfl) (Reps.one (show Kd.M (Kd.int .i64) _ _ _ 12 [.int .i64 12] from rfl) (Reps.none _ _))))
                          intro v204 w110 ho111 hb hg_ hnew_
                          clear hg_ hnew_
                          (first | rw [← Ny203.out] at ho111 | (simp only [Int.reduceToNat] at ho111; rw [← Ny203.out] at ho111))
                          have n1_ := Aside0.mk (Kd.R_below (by (with_reducible repeat (first | apply Kd.R_alloc | apply Kd.R_drewN | apply Kd.R_drew)); exact HO123.out) hb)
                          have n26_ := Aside0.mk (Kd.R_below (by (with_reducible repeat (first | apply Kd.R_alloc | apply Kd.R_drewN | apply Kd.R_drew)); exact HO202.out) hb)
                          have n27_ := Aside0.mk (Kd.R_lower ho111 (below_size (by repeat (first | (with_reducible first | exact HB.out | apply below_alloc | apply pw_below_drewN | apply below_drew1) | exact HB.out))))
                          have n28_ := Aside0.mk (below_step (by repeat (first | (with_reducible first | exact HB.out | apply below_alloc | apply pw_below_drewN | apply below_drew1) | exact HB.out)) hb)
                          clear HO123
                          clear HO202
                          clear HB
                          have HO123 := n1_
                          have HO202 := n26_
                          have HO205 := n27_
                          have HB := n28_
                          clear n1_ n26_ n27_ n28_
                          clear hb ho111
                          obtain ⟨Ao112, co112, eo112⟩ := Kd.R_slice HO205.out
                          subst eo112
                          go_wp2_with (go_at_call 27; (with_reducible refine (testamurlaw03_list.calls k _ _ y203 t206 _ ?side1 ?side2 A26.out).mono ?_); (case side1 => repeat (first | exact (Kd.R_reads' HO205.out).2.2 | (with_reducible refine Kd.C_alloc ?_ _) | (with_reducible refine Kd.C_drewN ?_ _) | (with_reducible refine Kd.C_drew ?_))); (case side2 => exact (Kd.R_reads' HO205.out).2.1); refine Aside0.out (p := _) ?_)
                          refine ⟨?_⟩
                          rintro e w113 ⟨v207, rfl, ho0, hb⟩
                          have n1_ := Aside0.mk (Kd.R_elder' (by (with_reducible repeat (first | apply Kd.R_alloc | apply Kd.R_drewN | apply Kd.R_drew)); exact HO123.out) (Kd.R_base ho0) hb)
                          have n26_ := Aside0.mk (Kd.R_elder' (by (with_reducible repeat (first | apply Kd.R_alloc | apply Kd.R_drewN | apply Kd.R_drew)); exact HO202.out) (Kd.R_base ho0) hb)
                          have n28_ := Aside0.mk (Kd.R_lower ho0 (below_size (by repeat (first | (with_reducible first | exact HB.out | apply below_alloc | apply pw_below_drewN | apply below_drew1) | exact HB.out))))
                          have n29_ := Aside0.mk (below_step (by repeat (first | (with_reducible first | exact HB.out | apply below_alloc | apply pw_below_drewN | apply below_drew1) | exact HB.out)) hb)
                          clear HO123
                          clear HO202
                          clear HO205
                          clear HB
                          have HO123 := n1_
                          have HO202 := n26_
                          have HO208 := n28_
                          have HB := n29_
                          clear n1_ n26_ n28_ n29_
                          (try clear hb)
                          (try clear hb2)
                          (try clear hk)
                          (try clear hi)
                          (try clear ho0)
                          obtain ⟨Ao114, co114, eo114⟩ := Kd.R_slice HO202.out
                          subst eo114
                          obtain ⟨Ao115, co115, eo115⟩ := Kd.R_slice HO208.out
                          subst eo115
                          go_wp2_with (go_at_call 19; (with_reducible refine (spans_Meet.calls _ _ t200 _ _ t206 t209 _ ?side1 ?side2 ?side3 ?side4 A27.out).mono ?_); (case side1 => repeat (first | exact (Kd.R_reads' HO202.out).2.2 | (with_reducible refine Kd.C_alloc ?_ _) | (with_reducible refine Kd.C_drewN ?_ _) | (with_reducible refine Kd.C_drew ?_))); (case side2 => exact (Kd.R_reads' HO202.out).2.1); (case side3 => repeat (first | exact (Kd.R_reads' HO208.out).2.2 | (with_reducible refine Kd.C_alloc ?_ _) | (with_reducible refine Kd.C_drewN ?_ _) | (with_reducible refine Kd.C_drew ?_))); (case side4 => exact (Kd.R_reads' HO208.out).2.1); refine Aside0.out (p := _) ?_)
                          refine ⟨?_⟩
                          rintro e w116 ⟨v210, rfl, ho0, hb⟩
                          have n1_ := Aside0.mk (Kd.R_elder' (by (with_reducible repeat (first | apply Kd.R_alloc | apply Kd.R_drewN | apply Kd.R_drew)); exact HO123.out) (Kd.R_base ho0) hb)
                          have n29_ := Aside0.mk (Kd.R_lower ho0 (below_size (by repeat (first | (with_reducible first | exact HB.out | apply below_alloc | apply pw_below_drewN | apply below_drew1) | exact HB.out))))
                          have n30_ := Aside0.mk (below_step (by repeat (first | (with_reducible first | exact HB.out | apply below_alloc | apply pw_below_drewN | apply below_drew1) | exact HB.out)) hb)
                          clear HO123
                          clear HO202
                          clear HO208
                          clear HB
                          have HO123 := n1_
                          have HO211 := n29_
                          have HB := n30_
                          clear n1_ n29_ n30_
                          (try clear hb)
                          (try clear hb2)
                          (try clear hk)
                          (try clear hi)
                          (try clear ho0)
                          go_wp2_with ((with_reducible refine gate_dst (N := 49) rfl ?_); (try (refine gate_guard (by rfl) ?_; dsimp only)); refine Aside0.out (p := _) ?_)
                          refine ⟨?_⟩
                          refine Kd.R_lit (Kd.int .i64) _ 3 ?hg (N := 49) ?hd (xs := ([5, 9] : List Int)) (inner := [.int .i64 5, .int .i64 9]) (ok := fun _ => True) (okp := fun _ => True) ?hr ?hp (fun _ hk => hk) trivial (Below.refl _ _) (Nat.le_refl _) (by simp) ?_; (case hd => rfl); (case hg => rfl); (case hr => first | (go_simp; done) | (go_simp; rfl)); (case hp => exact (Reps.one (show Kd.M (Kd.int .i64) _ _ _ 5 [.int .i64 5] from rfl) (Reps.one (show Kd.M (Kd.int .i64) _ _ _ 9 [.int .i64 9] from rfl) (Reps.none _ _))))
                          intro v213 w117 ho118 hb hg_ hnew_
                          clear hg_ hnew_
                          (first | rw [← Ny212.out] at ho118 | (simp only [Int.reduceToNat] at ho118; rw [← Ny212.out] at ho118))
                          have n1_ := Aside0.mk (Kd.R_below (by (with_reducible repeat (first | apply Kd.R_alloc | apply Kd.R_drewN | apply Kd.R_drew)); exact HO123.out) hb)
                          have n29_ := Aside0.mk (Kd.R_below (by (with_reducible repeat (first | apply Kd.R_alloc | apply Kd.R_drewN | apply Kd.R_drew)); exact HO211.out) hb)
                          have n30_ := Aside0.mk (Kd.R_lower ho118 (below_size (by repeat (first | (with_reducible first | exact HB.out | apply below_alloc | apply pw_below_drewN | apply below_drew1) | exact HB.out))))
                          have n31_ := Aside0.mk (below_step (by repeat (first | (with_reducible first | exact HB.out | apply below_alloc | apply pw_below_drewN | apply below_drew1) | exact HB.out)) hb)
                          clear HO123
                          clear HO211
                          clear HB
                          have HO123 := n1_
                          have HO211 := n29_
                          have HO214 := n30_
                          have HB := n31_
                          clear n1_ n29_ n30_ n31_
                          clear hb ho118
                          obtain ⟨Ao119, co119, eo119⟩ := Kd.R_slice HO214.out
                          subst eo119
                          go_wp2_with (go_at_call 27; (with_reducible refine (testamurlaw03_list.calls k _ _ y212 t215 _ ?side1 ?side2 A28.out).mono ?_); (case side1 => repeat (first | exact (Kd.R_reads' HO214.out).2.2 | (with_reducible refine Kd.C_alloc ?_ _) | (with_reducible refine Kd.C_drewN ?_ _) | (with_reducible refine Kd.C_drew ?_))); (case side2 => exact (Kd.R_reads' HO214.out).2.1); refine Aside0.out (p := _) ?_)
                          refine ⟨?_⟩
                          rintro e w120 ⟨v216, rfl, ho0, hb⟩
                          have n1_ := Aside0.mk (Kd.R_elder' (by (with_reducible repeat (first | apply Kd.R_alloc | apply Kd.R_drewN | apply Kd.R_drew)); exact HO123.out) (Kd.R_base ho0) hb)
                          have n29_ := Aside0.mk (Kd.R_elder' (by (with_reducible repeat (first | apply Kd.R_alloc | apply Kd.R_drewN | apply Kd.R_drew)); exact HO211.out) (Kd.R_base ho0) hb)
                          have n31_ := Aside0.mk (Kd.R_lower ho0 (below_size (by repeat (first | (with_reducible first | exact HB.out | apply below_alloc | apply pw_below_drewN | apply below_drew1) | exact HB.out))))
                          have n32_ := Aside0.mk (below_step (by repeat (first | (with_reducible first | exact HB.out | apply below_alloc | apply pw_below_drewN | apply below_drew1) | exact HB.out)) hb)
                          clear HO123
                          clear HO211
                          clear HO214
                          clear HB
                          have HO123 := n1_
                          have HO211 := n29_
                          have HO217 := n31_
                          have HB := n32_
                          clear n1_ n29_ n31_ n32_
                          (try clear hb)
                          (try clear hb2)
                          (try clear hk)
                          (try clear hi)
                          (try clear ho0)
                          obtain ⟨Ao121, co121, eo121⟩ := Kd.R_slice HO211.out
                          subst eo121
                          obtain ⟨Ao122, co122, eo122⟩ := Kd.R_slice HO217.out
                          subst eo122
                          go_wp2_with (go_at_call 14; (with_reducible refine (testamurref03_Same.calls k _ _ t209 _ _ t215 true _ ?side1 ?side2 ?side3 ?side4 A29.out).mono ?_); (case side1 => repeat (first | exact (Kd.R_reads' HO211.out).2.2 | (with_reducible refine Kd.C_alloc ?_ _) | (with_reducible refine Kd.C_drewN ?_ _) | (with_reducible refine Kd.C_drew ?_))); (case side2 => exact (Kd.R_reads' HO211.out).2.1); (case side3 => repeat (first | exact (Kd.R_reads' HO217.out).2.2 | (with_reducible refine Kd.C_alloc ?_ _) | (with_reducible refine Kd.C_drewN ?_ _) | (with_reducible refine Kd.C_drew ?_))); (case side4 => exact (Kd.R_reads' HO217.out).2.1); refine Aside0.out (p := _) ?_)
                          refine ⟨?_⟩
                          rintro e w' ⟨rfl, ⟨nd, rfl⟩⟩
                          go_wp2_with ((with_reducible refine gate_dst (N := 54) rfl ?_); (try (refine gate_guard (by rfl) ?_; dsimp only)); refine Aside0.out (p := _) ?_)
                          refine ⟨?_⟩
                          refine Kd.R_lit (Kd.int .i64) _ 3 ?hg (N := 54) ?hd (xs := ([0, 10, 10, 20] : List Int)) (inner := [.int .i64 0, .int .i64 10, .int .i64 10, .int .i64 20]) (ok := fun _ => True) (okp := fun _ => True) ?hr ?hp (fun _ hk => hk) trivial (Below.refl _ _) (Nat.le_refl _) (by simp) ?_; (case hd => rfl); (case hg => rfl); (case hr => first | (go_simp; done) | (go_simp; rfl)); (case hp => exact (Reps.one (show Kd.M (Kd.int .i64) _ _ _ 0 [.int .i64 0] from rfl) (Reps.one (show Kd.M (Kd.int .i64) _ _ _ 10 [.int .i64 10] from rfl) (Reps.one (show Kd.M (Kd.int .i64) _ _ _ 10 [.int .i64 10] from rfl) (Reps.one (show Kd.M (Kd.int .i64) _ _ _ 20 [.int .i64 20] from rfl) (Reps.none _ _))))))
                          intro v220 w123 ho124 hb hg_ hnew_
                          clear hg_ hnew_
                          (first | rw [← Ny219.out] at ho124 | (simp only [Int.reduceToNat] at ho124; rw [← Ny219.out] at ho124))
                          have n1_ := Aside0.mk (Kd.R_below (by (with_reducible repeat (first | apply Kd.R_alloc | apply Kd.R_drewN | apply Kd.R_drew)); exact HO123.out) hb)
                          have n32_ := Aside0.mk (Kd.R_lower ho124 (below_size (by repeat (first | (with_reducible first | exact HB.out | apply below_alloc | apply pw_below_drewN | apply below_drew1) | exact HB.out))))
                          have n33_ := Aside0.mk (below_step (by repeat (first | (with_reducible first | exact HB.out | apply below_alloc | apply pw_below_drewN | apply below_drew1) | exact HB.out)) hb)
                          clear HO123
                          clear HO211
                          clear HO217
                          clear HB
                          have HO123 := n1_
                          have HO221 := n32_
                          have HB := n33_
                          clear n1_ n32_ n33_
                          clear hb ho124
                          obtain ⟨Ao125, co125, eo125⟩ := Kd.R_slice HO221.out
                          subst eo125
                          go_wp2_with (go_at_call 27; (with_reducible refine (testamurlaw03_list.calls k _ _ y219 t222 _ ?side1 ?side2 A31.out).mono ?_); (case side1 => repeat (first | exact (Kd.R_reads' HO221.out).2.2 | (with_reducible refine Kd.C_alloc ?_ _) | (with_reducible refine Kd.C_drewN ?_ _) | (with_reducible refine Kd.C_drew ?_))); (case side2 => exact (Kd.R_reads' HO221.out).2.1); refine Aside0.out (p := _) ?_)
                          refine ⟨?_⟩
                          rintro e w126 ⟨v223, rfl, ho0, hb⟩
                          have n1_ := Aside0.mk (Kd.R_elder' (by (with_reducible repeat (first | apply Kd.R_alloc | apply Kd.R_drewN | apply Kd.R_drew)); exact HO123.out) (Kd.R_base ho0) hb)
                          have n33_ := Aside0.mk (Kd.R_lower ho0 (below_size (by repeat (first | (with_reducible first | exact HB.out | apply below_alloc | apply pw_below_drewN | apply below_drew1) | exact HB.out))))
                          have n34_ := Aside0.mk (below_step (by repeat (first | (with_reducible first | exact HB.out | apply below_alloc | apply pw_below_drewN | apply below_drew1) | exact HB.out)) hb)
                          clear HO123
                          clear HO221
                          clear HB
                          have HO123 := n1_
                          have HO224 := n33_
                          have HB := n34_
                          clear n1_ n33_ n34_
                          (try clear hb)
                          (try clear hb2)
                          (try clear hk)
                          (try clear hi)
                          (try clear ho0)
                          obtain ⟨Ao127, co127, eo127⟩ := Kd.R_slice HO224.out
                          subst eo127
                          go_wp2_with (go_at_call 25; (with_reducible refine (spans_Covers.calls _ _ t222 5 15 true _ ?side1 ?side2 A32.out).mono ?_); (case side1 => repeat (first | exact (Kd.R_reads' HO224.out).2.2 | (with_reducible refine Kd.C_alloc ?_ _) | (with_reducible refine Kd.C_drewN ?_ _) | (with_reducible refine Kd.C_drew ?_))); (case side2 => exact (Kd.R_reads' HO224.out).2.1); refine Aside0.out (p := _) ?_)
                          refine ⟨?_⟩
                          rintro e w128 ⟨rfl, hb⟩
                          have n1_ := Aside0.mk (Kd.R_below (by (with_reducible repeat (first | apply Kd.R_alloc | apply Kd.R_drewN | apply Kd.R_drew)); exact HO123.out) hb)
                          have n34_ := Aside0.mk (below_step (by repeat (first | (with_reducible first | exact HB.out | apply below_alloc | apply pw_below_drewN | apply below_drew1) | exact HB.out)) hb)
                          clear HO123
                          clear HO224
                          clear HB
                          have HO123 := n1_
                          have HB := n34_
                          clear n1_ n34_
                          (try clear hb)
                          (try clear hb2)
                          (try clear hk)
                          (try clear hi)
                          go_wp2_with (go_at_call 25; (refine (spans_Covers.calls _ _ ([] : List (S31)) 7 7 true _ ?side1 ?side2 A34.out).mono ?_); (case side1 => exact Kd.C_nil _ _); (case side2 => exact Nat.le_refl _); refine Aside0.out (p := _) ?_)
                          refine ⟨?_⟩
                          rintro e w129 ⟨rfl, hb⟩
                          have n1_ := Aside0.mk (Kd.R_below (by (with_reducible repeat (first | apply Kd.R_alloc | apply Kd.R_drewN | apply Kd.R_drew)); exact HO123.out) hb)
                          have n34_ := Aside0.mk (below_step (by repeat (first | (with_reducible first | exact HB.out | apply below_alloc | apply pw_below_drewN | apply below_drew1) | exact HB.out)) hb)
                          clear HO123
                          clear HB
                          have HO123 := n1_
                          have HB := n34_
                          clear n1_ n34_
                          (try clear hb)
                          (try clear hb2)
                          (try clear hk)
                          (try clear hi)
                          go_wp2_with (go_at_call 25; (with_reducible refine (spans_Covers.calls _ _ t121 1023 1025 false _ ?side1 ?side2 A36.out).mono ?_); (case side1 => repeat (first | exact (Kd.R_reads' HO123.out).2.2 | (with_reducible refine Kd.C_alloc ?_ _) | (with_reducible refine Kd.C_drewN ?_ _) | (with_reducible refine Kd.C_drew ?_))); (case side2 => exact (Kd.R_reads' HO123.out).2.1); refine Aside0.out (p := _) ?_)
                          refine ⟨?_⟩
                          rintro e w130 ⟨rfl, hb⟩
                          have n1_ := Aside0.mk (Kd.R_below (by (with_reducible repeat (first | apply Kd.R_alloc | apply Kd.R_drewN | apply Kd.R_drew)); exact HO123.out) hb)
                          have n34_ := Aside0.mk (below_step (by repeat (first | (with_reducible first | exact HB.out | apply below_alloc | apply pw_below_drewN | apply below_drew1) | exact HB.out)) hb)
                          clear HO123
                          clear HB
                          have HO123 := n1_
                          have HB := n34_
                          clear n1_ n34_
                          (try clear hb)
                          (try clear hb2)
                          (try clear hk)
                          (try clear hi)
                          go_wp2_with (go_at_call 23; (with_reducible refine (spans_Has.calls _ _ t121 1023 true _ ?side1 ?side2 A38.out).mono ?_); (case side1 => repeat (first | exact (Kd.R_reads' HO123.out).2.2 | (with_reducible refine Kd.C_alloc ?_ _) | (with_reducible refine Kd.C_drewN ?_ _) | (with_reducible refine Kd.C_drew ?_))); (case side2 => exact (Kd.R_reads' HO123.out).2.1); refine Aside0.out (p := _) ?_)
                          refine ⟨?_⟩
                          rintro e w131 ⟨rfl, hb⟩
                          have n1_ := Aside0.mk (Kd.R_below (by (with_reducible repeat (first | apply Kd.R_alloc | apply Kd.R_drewN | apply Kd.R_drew)); exact HO123.out) hb)
                          have n34_ := Aside0.mk (below_step (by repeat (first | (with_reducible first | exact HB.out | apply below_alloc | apply pw_below_drewN | apply below_drew1) | exact HB.out)) hb)
                          clear HO123
                          clear HB
                          have HO123 := n1_
                          have HB := n34_
                          clear n1_ n34_
                          (try clear hb)
                          (try clear hb2)
                          (try clear hk)
                          (try clear hi)
                          go_wp2_with (go_at_call 23; (with_reducible refine (spans_Has.calls _ _ t121 1024 false _ ?side1 ?side2 A40.out).mono ?_); (case side1 => repeat (first | exact (Kd.R_reads' HO123.out).2.2 | (with_reducible refine Kd.C_alloc ?_ _) | (with_reducible refine Kd.C_drewN ?_ _) | (with_reducible refine Kd.C_drew ?_))); (case side2 => exact (Kd.R_reads' HO123.out).2.1); refine Aside0.out (p := _) ?_)
                          refine ⟨?_⟩
                          rintro e w132 ⟨rfl, hb⟩
                          have n1_ := Aside0.mk (Kd.R_below (by (with_reducible repeat (first | apply Kd.R_alloc | apply Kd.R_drewN | apply Kd.R_drew)); exact HO123.out) hb)
                          have n34_ := Aside0.mk (below_step (by repeat (first | (with_reducible first | exact HB.out | apply below_alloc | apply pw_below_drewN | apply below_drew1) | exact HB.out)) hb)
                          clear HO123
                          clear HB
                          have HO123 := n1_
                          have HB := n34_
                          clear n1_ n34_
                          (try clear hb)
                          (try clear hb2)
                          (try clear hk)
                          (try clear hi)
                          go_wp2_with ((with_reducible refine gate_dst (N := 79) rfl ?_); (try (refine gate_guard (by rfl) ?_; dsimp only)); refine Aside0.out (p := _) ?_)
                          refine ⟨?_⟩
                          refine Kd.R_lit (Kd.int .i64) _ 3 ?hg (N := 79) ?hd (xs := ([0, 0] : List Int)) (inner := [.int .i64 0, .int .i64 0]) (ok := fun _ => True) (okp := fun _ => True) ?hr ?hp (fun _ hk => hk) trivial (Below.refl _ _) (Nat.le_refl _) (by simp) ?_; (case hd => rfl); (case hg => rfl); (case hr => first | (go_simp; done) | (go_simp; rfl)); (case hp => exact (Reps.one (show Kd.M (Kd.int .i64) _ _ _ 0 [.int .i64 0] from rfl) (Reps.one (show Kd.M (Kd.int .i64) _ _ _ 0 [.int .i64 0] from rfl) (Reps.none _ _))))
                          intro v231 w133 ho134 hb hg_ hnew_
                          clear hg_ hnew_
                          (first | rw [← Ny230.out] at ho134 | (simp only [Int.reduceToNat] at ho134; rw [← Ny230.out] at ho134))
                          have n1_ := Aside0.mk (Kd.R_below (by (with_reducible repeat (first | apply Kd.R_alloc | apply Kd.R_drewN | apply Kd.R_drew)); exact HO123.out) hb)
                          have n34_ := Aside0.mk (Kd.R_lower ho134 (below_size (by repeat (first | (with_reducible first | exact HB.out | apply below_alloc | apply pw_below_drewN | apply below_drew1) | exact HB.out))))
                          have n35_ := Aside0.mk (below_step (by repeat (first | (with_reducible first | exact HB.out | apply below_alloc | apply pw_below_drewN | apply below_drew1) | exact HB.out)) hb)
                          clear HO123
                          clear HB
                          have HO123 := n1_
                          have HO232 := n34_
                          have HB := n35_
                          clear n1_ n34_ n35_
                          clear hb ho134
                          obtain ⟨Ao135, co135, eo135⟩ := Kd.R_slice HO232.out
                          subst eo135
                          go_wp2_with (go_at_call 27; (with_reducible refine (testamurlaw03_list.calls k _ _ y230 t233 _ ?side1 ?side2 A42.out).mono ?_); (case side1 => repeat (first | exact (Kd.R_reads' HO232.out).2.2 | (with_reducible refine Kd.C_alloc ?_ _) | (with_reducible refine Kd.C_drewN ?_ _) | (with_reducible refine Kd.C_drew ?_))); (case side2 => exact (Kd.R_reads' HO232.out).2.1); refine Aside0.out (p := _) ?_)
                          refine ⟨?_⟩
                          rintro e w136 ⟨v234, rfl, ho0, hb⟩
                          have n1_ := Aside0.mk (Kd.R_elder' (by (with_reducible repeat (first | apply Kd.R_alloc | apply Kd.R_drewN | apply Kd.R_drew)); exact HO123.out) (Kd.R_base ho0) hb)
                          have n35_ := Aside0.mk (Kd.R_lower ho0 (below_size (by repeat (first | (with_reducible first | exact HB.out | apply below_alloc | apply pw_below_drewN | apply below_drew1) | exact HB.out))))
                          have n36_ := Aside0.mk (below_step (by repeat (first | (with_reducible first | exact HB.out | apply below_alloc | apply pw_below_drewN | apply below_drew1) | exact HB.out)) hb)
                          clear HO123
                          clear HO232
                          clear HB
                          have HO123 := n1_
                          have HO235 := n35_
                          have HB := n36_
                          clear n1_ n35_ n36_
                          (try clear hb)
                          (try clear hb2)
                          (try clear hk)
                          (try clear hi)
                          (try clear ho0)
                          obtain ⟨Ao137, co137, eo137⟩ := Kd.R_slice HO235.out
                          subst eo137
                          go_wp2_with (go_at_call 12; (with_reducible refine (spans_Check.calls _ _ t233 t236 _ ?side1 ?side2 A43.out).mono ?_); (case side1 => repeat (first | exact (Kd.R_reads' HO235.out).2.2 | (with_reducible refine Kd.C_alloc ?_ _) | (with_reducible refine Kd.C_drewN ?_ _) | (with_reducible refine Kd.C_drew ?_))); (case side2 => exact (Kd.R_reads' HO235.out).2.1); refine Aside0.out (p := _) ?_)
                          refine ⟨?_⟩
                          rintro e w138 ⟨rfl, hb⟩
                          have n1_ := Aside0.mk (Kd.R_below (by (with_reducible repeat (first | apply Kd.R_alloc | apply Kd.R_drewN | apply Kd.R_drew)); exact HO123.out) hb)
                          have n36_ := Aside0.mk (below_step (by repeat (first | (with_reducible first | exact HB.out | apply below_alloc | apply pw_below_drewN | apply below_drew1) | exact HB.out)) hb)
                          clear HO123
                          clear HO235
                          clear HB
                          have HO123 := n1_
                          have HB := n36_
                          clear n1_ n36_
                          (try clear hb)
                          (try clear hb2)
                          (try clear hk)
                          (try clear hi)
                          go_wp2_with (go_at_call 12; (with_reducible refine (spans_Check.calls _ _ t121 t237 _ ?side1 ?side2 A45.out).mono ?_); (case side1 => repeat (first | exact (Kd.R_reads' HO123.out).2.2 | (with_reducible refine Kd.C_alloc ?_ _) | (with_reducible refine Kd.C_drewN ?_ _) | (with_reducible refine Kd.C_drew ?_))); (case side2 => exact (Kd.R_reads' HO123.out).2.1); refine Aside0.out (p := _) ?_)
                          refine ⟨?_⟩
                          rintro e w139 ⟨rfl, hb⟩
                          have n36_ := Aside0.mk (below_step (by repeat (first | (with_reducible first | exact HB.out | apply below_alloc | apply pw_below_drewN | apply below_drew1) | exact HB.out)) hb)
                          clear HO123
                          clear HB
                          have HB := n36_
                          clear n36_
                          (try clear hb)
                          (try clear hb2)
                          (try clear hk)
                          (try clear hi)
                          go_wp2
                          go_ret
                          exact ⟨by first | rfl | (simp [errW_none, errW_some] <;> rfl) | (simp [*, errW_none, errW_some] <;> rfl), by repeat (first | (with_reducible first | exact HB.out | apply below_alloc | apply pw_below_drewN | apply below_drew1) | exact HB.out)⟩
                        · rw [if_neg c44] at H
                          exact absurd H (by simp)
                    · replace c39 := Bool.eq_false_iff.mpr c39
                      subst c39
                      have H1 : (none) = some r := by rw [if_neg (show ¬ (false = true) by decide)] at H; exact H
                      clear H
                      have H := H1
                      clear H1
                      exact absurd H (by simp)
                · replace c35 := Bool.eq_false_iff.mpr c35
                  subst c35
                  have H1 : (none) = some r := by rw [if_neg (show ¬ (false = true) by decide)] at H; exact H
                  clear H
                  have H := H1
                  clear H1
                  exact absurd H (by simp)
              · replace c33 := Bool.eq_false_iff.mpr c33
                subst c33
                have H1 : (none) = some r := by rw [if_neg (show ¬ (false = true) by decide)] at H; exact H
                clear H
                have H := H1
                clear H1
                exact absurd H (by simp)
            · replace c30 := Bool.eq_false_iff.mpr c30
              subst c30
              have H1 : (none) = some r := by rw [if_neg (show ¬ (false = true) by decide)] at H; exact H
              clear H
              have H := H1
              clear H1
              exact absurd H (by simp)
          · replace c24 := Bool.eq_false_iff.mpr c24
            subst c24
            have H1 : (none) = some r := by rw [if_neg (show ¬ (false = true) by decide)] at H; exact H
            clear H
            have H := H1
            clear H1
            exact absurd H (by simp)
        · replace c18 := Bool.eq_false_iff.mpr c18
          subst c18
          have H1 : (none) = some r := by rw [if_neg (show ¬ (false = true) by decide)] at H; exact H
          clear H
          have H := H1
          clear H1
          exact absurd H (by simp)
      · rw [if_neg c13] at H
        exact absurd H (by simp)
    · replace c10 := Bool.eq_false_iff.mpr c10
      subst c10
      have H1 : (none) = some r := by rw [if_neg (show ¬ (false = true) by decide)] at H; exact H
      clear H
      have H := H1
      clear H1
      exact absurd H (by simp)
  · replace c6 := Bool.eq_false_iff.mpr c6
    subst c6
    have H1 : (none) = some r := by rw [if_neg (show ¬ (false = true) by decide)] at H; exact H
    clear H
    have H := H1
    clear H1
    exact absurd H (by simp)

end Go.Proofs.Ytcemfklhbgnflaa.P
