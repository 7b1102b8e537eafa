-- printed by gprint.py (a program of this seat over the kit's print.py): Lean checks it
import Derived.Test.YtkclehmjkncmnaaP0
import Derived.Test.YtkclehmjkncmnaaPB
import Derived.Test.YtkclehmjkncmnaaPA
import Derived.Test.YtkclehmjkncmnaaGD
import Derived.Test.YtkclehmjkncmnaaH
namespace Go.Proofs.Ytkclehmjkncmnaa.P
open Go.RowKit Go.Proofs.YtkclehmjkncmnaaW.PrintWords Go.Proofs.YtkclehmjkncmnaaW.PrintLast Go.Proofs.YtkclehmjkncmnaaW.PrintMore
attribute [local go_sem] max2_int min2_int max_two min_two max_three min_three max_four min_four   -- for this text's walks alone
set_option linter.unusedVariables false
set_option linter.unusedSimpArgs false

/-! ### testamurlaw42_sane: function 25 -/
def testamurlaw42_sane.j0 : Nat → List (S40) → List (S40) → List (S40) → List (S47) → Bool → Bool → Bool → List (S47) → Bool → Option (Bool)
 | 0, _, _, _, _, _, _, _, _, _ => none
 | k + 1, x3, x5, x9, x11, x13, x15, x17, x19, x23 => (testamurref42_Same.f k x5 x3).bind fun t189 => (if t189 = true then ((testamurref42_Same.f k x9 x3).bind fun t190 => (if t190 = true then (if (x3.length : Int) = 2 then ((testamurref42_SameState.f k x11 (([(⟨0, 1, 2, true⟩ : S47), (⟨1, 2, 0, false⟩ : S47)] : List (S47)))).bind fun t194 => (if t194 = true then (if x13 = true then (if x15 = true then (none) else (if x17 = true then (none) else ((testamurref42_SameState.f k x19 (([(⟨0, 2, 0, false⟩ : S47)] : List (S47)))).bind fun t198 => (if t198 = true then (if x23 = true then ((devices_Check.f ([] : List (S40))).bind fun t199 => (if t199 = 0 then ((devices_Check.f (([(⟨0, 0, 0, 0, 0, 0⟩ : S40)] : List (S40)))).bind fun t203 => (some (t203 == 420))) else (none))) else (none)) else (none))))) else (none)) else (none))) else (none)) else (none))) else (none))
def testamurlaw42_sane.f (k : Nat)  : Option (Bool) := (testamurlaw42_give.f 2 1 0 1 1).bind fun bt125 => ((devices_Add.f ([] : List (S40)) bt125.1 bt125.2.1 bt125.2.2.1 bt125.2.2.2.1 bt125.2.2.2.2.1 bt125.2.2.2.2.2).bind fun bt131 => ((testamurlaw42_show.f 1 1 0 2).bind fun bt135 => ((devices_Add.f bt131.1 bt135.1 bt135.2.1 bt135.2.2.1 bt135.2.2.2.1 bt135.2.2.2.2.1 bt135.2.2.2.2.2).bind fun bt141 => ((testamurlaw42_show.f 1 1 0 2).bind fun bt145 => ((devices_Add.f bt141.1 bt145.1 bt145.2.1 bt145.2.2.1 bt145.2.2.2.1 bt145.2.2.2.2.1 bt145.2.2.2.2.2).bind fun bt151 => ((testamurlaw42_show.f 1 1 3 1).bind fun bt155 => ((devices_Add.f bt141.1 bt155.1 bt155.2.1 bt155.2.2.1 bt155.2.2.2.1 bt155.2.2.2.2.1 bt155.2.2.2.2.2).bind fun bt161 => ((devices_Merge.f ([] : List (S40)) bt141.1).bind fun bt165 => ((devices_State.f bt141.1 2 2).bind fun bt169 => ((devices_May.f bt131.1 1 2 1 0).bind fun bt173 => ((devices_May.f bt131.1 1 2 2 0).bind fun bt175 => ((devices_May.f bt141.1 1 2 1 0).bind fun bt177 => ((devices_State.f ([] : List (S40)) 1 2).bind fun bt179 => ((devices_State.f ([] : List (S40)) 1 4).bind fun bt183 => ((devices_May.f ([] : List (S40)) 1 2 2 0).bind fun bt187 => (if bt131.2 = 0 then (if bt141.2 = 0 then (if bt151.2 = 0 then (if bt161.2 = 420 then (if bt165.2 = 0 then (if bt169.2 = 0 then (if bt173.2 = 0 then (if bt175.2 = 0 then (if bt177.2 = 0 then (if bt179.2 = 0 then (if bt183.2 = 1 then (if bt187.2 = 0 then (testamurlaw42_sane.j0 k bt141.1 bt151.1 bt165.1 bt169.1 bt173.1 bt175.1 bt177.1 bt179.1 bt187.1) else (none)) else (none)) else (none)) else (none)) else (none)) else (none)) else (none)) else (none)) else (none)) else (none)) else (none)) else (none)))))))))))))))))
theorem testamurlaw42_sane.mono_l : ∀ k, (∀ y0 y1 y2 y3 y4 y5 y6 y7 y8, LeO (testamurlaw42_sane.j0 k y0 y1 y2 y3 y4 y5 y6 y7 y8) (testamurlaw42_sane.j0 (k + 1) y0 y1 y2 y3 y4 y5 y6 y7 y8))
 | 0 => fun _ _ _ _ _ _ _ _ _ r h => by simp [testamurlaw42_sane.j0] at h
 | k + 1 => by
  have ih0 := testamurlaw42_sane.mono_l k
  ·intro y0 y1 y2 y3 y4 y5 y6 y7 y8
   unfold testamurlaw42_sane.j0
   repeat' first
   | (with_reducible exact ih0 _ _ _ _ _ _ _ _ _)
   | (with_reducible exact testamurref42_Same.mono _ _ _)
   | (with_reducible exact testamurref42_SameState.mono _ _ _)
   | (with_reducible exact LeO.refl _)
   | (with_reducible exact LeO.none _)
   | (with_reducible refine LeO.ite ?_ ?_)
   | (with_reducible refine LeO.bind ?_ (fun _ => ?_))
   | exact ih0 _ _ _ _ _ _ _ _ _
   | exact testamurref42_Same.mono _ _ _
   | exact testamurref42_SameState.mono _ _ _
   | exact LeO.none _
   | refine LeO.ite ?_ ?_
   | refine LeO.bind ?_ (fun _ => ?_)
theorem testamurlaw42_sane.mono : ∀ k, LeO (testamurlaw42_sane.f k ) (testamurlaw42_sane.f (k + 1) ) := by
 intro  k
 have ih0 := testamurlaw42_sane.mono_l k
 unfold testamurlaw42_sane.f
 repeat' first
   | (with_reducible exact ih0 _ _ _ _ _ _ _ _ _)
   | (with_reducible exact testamurref42_Same.mono _ _ _)
   | (with_reducible exact testamurref42_SameState.mono _ _ _)
   | (with_reducible exact LeO.refl _)
   | (with_reducible exact LeO.none _)
   | (with_reducible refine LeO.ite ?_ ?_)
   | (with_reducible refine LeO.bind ?_ (fun _ => ?_))
   | exact ih0 _ _ _ _ _ _ _ _ _
   | exact testamurref42_Same.mono _ _ _
   | exact testamurref42_SameState.mono _ _ _
   | exact LeO.none _
   | refine LeO.ite ?_ ?_
   | refine LeO.bind ?_ (fun _ => ?_)
set_option maxHeartbeats 8000000 in
set_option maxRecDepth 100000 in
theorem testamurlaw42_sane.calls (k : Nat)  (r : Bool) (w : World) (h : testamurlaw42_sane.f k  = some r) :
  Calls Try.prog 25 #[] w fun e w' => e = .returned (.bool r) ∧ Below w.heap.size w w' := by
 have hu47 := Try.underlying47
 have hu40 := Try.underlying40
 have HB := Aside0.mk (Below.refl w.heap.size w)
 have H : ((testamurlaw42_give.f 2 1 0 1 1).bind fun bt125 => ((devices_Add.f ([] : List (S40)) bt125.1 bt125.2.1 bt125.2.2.1 bt125.2.2.2.1 bt125.2.2.2.2.1 bt125.2.2.2.2.2).bind fun bt131 => ((testamurlaw42_show.f 1 1 0 2).bind fun bt135 => ((devices_Add.f bt131.1 bt135.1 bt135.2.1 bt135.2.2.1 bt135.2.2.2.1 bt135.2.2.2.2.1 bt135.2.2.2.2.2).bind fun bt141 => ((testamurlaw42_show.f 1 1 0 2).bind fun bt145 => ((devices_Add.f bt141.1 bt145.1 bt145.2.1 bt145.2.2.1 bt145.2.2.2.1 bt145.2.2.2.2.1 bt145.2.2.2.2.2).bind fun bt151 => ((testamurlaw42_show.f 1 1 3 1).bind fun bt155 => ((devices_Add.f bt141.1 bt155.1 bt155.2.1 bt155.2.2.1 bt155.2.2.2.1 bt155.2.2.2.2.1 bt155.2.2.2.2.2).bind fun bt161 => ((devices_Merge.f ([] : List (S40)) bt141.1).bind fun bt165 => ((devices_State.f bt141.1 2 2).bind fun bt169 => ((devices_May.f bt131.1 1 2 1 0).bind fun bt173 => ((devices_May.f bt131.1 1 2 2 0).bind fun bt175 => ((devices_May.f bt141.1 1 2 1 0).bind fun bt177 => ((devices_State.f ([] : List (S40)) 1 2).bind fun bt179 => ((devices_State.f ([] : List (S40)) 1 4).bind fun bt183 => ((devices_May.f ([] : List (S40)) 1 2 2 0).bind fun bt187 => (if bt131.2 = 0 then (if bt141.2 = 0 then (if bt151.2 = 0 then (if bt161.2 = 420 then (if bt165.2 = 0 then (if bt169.2 = 0 then (if bt173.2 = 0 then (if bt175.2 = 0 then (if bt177.2 = 0 then (if bt179.2 = 0 then (if bt183.2 = 1 then (if bt187.2 = 0 then (testamurlaw42_sane.j0 k bt141.1 bt151.1 bt165.1 bt169.1 bt173.1 bt175.1 bt177.1 bt179.1 bt187.1) else (none)) else (none)) else (none)) else (none)) else (none)) else (none)) else (none)) else (none)) else (none)) else (none)) else (none)) else (none)))))))))))))))))) = some r := h
 clear h
 replace H := Option.bind_eq_some_iff.mp H
 obtain ⟨⟨t125, t126, t127, t128, t129, t130⟩, A10, H⟩ := H
 replace H : ((devices_Add.f ([] : List (S40)) t125 t126 t127 t128 t129 t130).bind fun bt131 => ((testamurlaw42_show.f 1 1 0 2).bind fun bt135 => ((devices_Add.f bt131.1 bt135.1 bt135.2.1 bt135.2.2.1 bt135.2.2.2.1 bt135.2.2.2.2.1 bt135.2.2.2.2.2).bind fun bt141 => ((testamurlaw42_show.f 1 1 0 2).bind fun bt145 => ((devices_Add.f bt141.1 bt145.1 bt145.2.1 bt145.2.2.1 bt145.2.2.2.1 bt145.2.2.2.2.1 bt145.2.2.2.2.2).bind fun bt151 => ((testamurlaw42_show.f 1 1 3 1).bind fun bt155 => ((devices_Add.f bt141.1 bt155.1 bt155.2.1 bt155.2.2.1 bt155.2.2.2.1 bt155.2.2.2.2.1 bt155.2.2.2.2.2).bind fun bt161 => ((devices_Merge.f ([] : List (S40)) bt141.1).bind fun bt165 => ((devices_State.f bt141.1 2 2).bind fun bt169 => ((devices_May.f bt131.1 1 2 1 0).bind fun bt173 => ((devices_May.f bt131.1 1 2 2 0).bind fun bt175 => ((devices_May.f bt141.1 1 2 1 0).bind fun bt177 => ((devices_State.f ([] : List (S40)) 1 2).bind fun bt179 => ((devices_State.f ([] : List (S40)) 1 4).bind fun bt183 => ((devices_May.f ([] : List (S40)) 1 2 2 0).bind fun bt187 => (if bt131.2 = 0 then (if bt141.2 = 0 then (if bt151.2 = 0 then (if bt161.2 = 420 then (if bt165.2 = 0 then (if bt169.2 = 0 then (if bt173.2 = 0 then (if bt175.2 = 0 then (if bt177.2 = 0 then (if bt179.2 = 0 then (if bt183.2 = 1 then (if bt187.2 = 0 then (testamurlaw42_sane.j0 k bt141.1 bt151.1 bt165.1 bt169.1 bt173.1 bt175.1 bt177.1 bt179.1 bt187.1) else (none)) else (none)) else (none)) else (none)) else (none)) else (none)) else (none)) else (none)) else (none)) else (none)) else (none)) else (none))))))))))))))))) = some r := H
 have A1 := Aside0.mk A10
 clear A10
 replace H := Option.bind_eq_some_iff.mp H
 obtain ⟨⟨t131, t134⟩, A20, H⟩ := H
 replace H : ((testamurlaw42_show.f 1 1 0 2).bind fun bt135 => ((devices_Add.f t131 bt135.1 bt135.2.1 bt135.2.2.1 bt135.2.2.2.1 bt135.2.2.2.2.1 bt135.2.2.2.2.2).bind fun bt141 => ((testamurlaw42_show.f 1 1 0 2).bind fun bt145 => ((devices_Add.f bt141.1 bt145.1 bt145.2.1 bt145.2.2.1 bt145.2.2.2.1 bt145.2.2.2.2.1 bt145.2.2.2.2.2).bind fun bt151 => ((testamurlaw42_show.f 1 1 3 1).bind fun bt155 => ((devices_Add.f bt141.1 bt155.1 bt155.2.1 bt155.2.2.1 bt155.2.2.2.1 bt155.2.2.2.2.1 bt155.2.2.2.2.2).bind fun bt161 => ((devices_Merge.f ([] : List (S40)) bt141.1).bind fun bt165 => ((devices_State.f bt141.1 2 2).bind fun bt169 => ((devices_May.f t131 1 2 1 0).bind fun bt173 => ((devices_May.f t131 1 2 2 0).bind fun bt175 => ((devices_May.f bt141.1 1 2 1 0).bind fun bt177 => ((devices_State.f ([] : List (S40)) 1 2).bind fun bt179 => ((devices_State.f ([] : List (S40)) 1 4).bind fun bt183 => ((devices_May.f ([] : List (S40)) 1 2 2 0).bind fun bt187 => (if t134 = 0 then (if bt141.2 = 0 then (if bt151.2 = 0 then (if bt161.2 = 420 then (if bt165.2 = 0 then (if bt169.2 = 0 then (if bt173.2 = 0 then (if bt175.2 = 0 then (if bt177.2 = 0 then (if bt179.2 = 0 then (if bt183.2 = 1 then (if bt187.2 = 0 then (testamurlaw42_sane.j0 k bt141.1 bt151.1 bt165.1 bt169.1 bt173.1 bt175.1 bt177.1 bt179.1 bt187.1) else (none)) else (none)) else (none)) else (none)) else (none)) else (none)) else (none)) else (none)) else (none)) else (none)) else (none)) else (none)))))))))))))))) = some r := H
 have A2 := Aside0.mk A20
 clear A20
 replace H := Option.bind_eq_some_iff.mp H
 obtain ⟨⟨t135, t136, t137, t138, t139, t140⟩, A30, H⟩ := H
 replace H : ((devices_Add.f t131 t135 t136 t137 t138 t139 t140).bind fun bt141 => ((testamurlaw42_show.f 1 1 0 2).bind fun bt145 => ((devices_Add.f bt141.1 bt145.1 bt145.2.1 bt145.2.2.1 bt145.2.2.2.1 bt145.2.2.2.2.1 bt145.2.2.2.2.2).bind fun bt151 => ((testamurlaw42_show.f 1 1 3 1).bind fun bt155 => ((devices_Add.f bt141.1 bt155.1 bt155.2.1 bt155.2.2.1 bt155.2.2.2.1 bt155.2.2.2.2.1 bt155.2.2.2.2.2).bind fun bt161 => ((devices_Merge.f ([] : List (S40)) bt141.1).bind fun bt165 => ((devices_State.f bt141.1 2 2).bind fun bt169 => ((devices_May.f t131 1 2 1 0).bind fun bt173 => ((devices_May.f t131 1 2 2 0).bind fun bt175 => ((devices_May.f bt141.1 1 2 1 0).bind fun bt177 => ((devices_State.f ([] : List (S40)) 1 2).bind fun bt179 => ((devices_State.f ([] : List (S40)) 1 4).bind fun bt183 => ((devices_May.f ([] : List (S40)) 1 2 2 0).bind fun bt187 => (if t134 = 0 then (if bt141.2 = 0 then (if bt151.2 = 0 then (if bt161.2 = 420 then (if bt165.2 = 0 then (if bt169.2 = 0 then (if bt173.2 = 0 then (if bt175.2 = 0 then (if bt177.2 = 0 then (if bt179.2 = 0 then (if bt183.2 = 1 then (if bt187.2 = 0 then (testamurlaw42_sane.j0 k bt141.1 bt151.1 bt165.1 bt169.1 bt173.1 bt175.1 bt177.1 bt179.1 bt187.1) else (none)) else (none)) else (none)) else (none)) else (none)) else (none)) else (none)) else (none)) else (none)) else (none)) else (none)) else (none))))))))))))))) = some r := H
 have A3 := Aside0.mk A30
 clear A30
 replace H := Option.bind_eq_some_iff.mp H
 obtain ⟨⟨t141, t144⟩, A40, H⟩ := H
 replace H : ((testamurlaw42_show.f 1 1 0 2).bind fun bt145 => ((devices_Add.f t141 bt145.1 bt145.2.1 bt145.2.2.1 bt145.2.2.2.1 bt145.2.2.2.2.1 bt145.2.2.2.2.2).bind fun bt151 => ((testamurlaw42_show.f 1 1 3 1).bind fun bt155 => ((devices_Add.f t141 bt155.1 bt155.2.1 bt155.2.2.1 bt155.2.2.2.1 bt155.2.2.2.2.1 bt155.2.2.2.2.2).bind fun bt161 => ((devices_Merge.f ([] : List (S40)) t141).bind fun bt165 => ((devices_State.f t141 2 2).bind fun bt169 => ((devices_May.f t131 1 2 1 0).bind fun bt173 => ((devices_May.f t131 1 2 2 0).bind fun bt175 => ((devices_May.f t141 1 2 1 0).bind fun bt177 => ((devices_State.f ([] : List (S40)) 1 2).bind fun bt179 => ((devices_State.f ([] : List (S40)) 1 4).bind fun bt183 => ((devices_May.f ([] : List (S40)) 1 2 2 0).bind fun bt187 => (if t134 = 0 then (if t144 = 0 then (if bt151.2 = 0 then (if bt161.2 = 420 then (if bt165.2 = 0 then (if bt169.2 = 0 then (if bt173.2 = 0 then (if bt175.2 = 0 then (if bt177.2 = 0 then (if bt179.2 = 0 then (if bt183.2 = 1 then (if bt187.2 = 0 then (testamurlaw42_sane.j0 k t141 bt151.1 bt165.1 bt169.1 bt173.1 bt175.1 bt177.1 bt179.1 bt187.1) else (none)) else (none)) else (none)) else (none)) else (none)) else (none)) else (none)) else (none)) else (none)) else (none)) else (none)) else (none)))))))))))))) = some r := H
 have A4 := Aside0.mk A40
 clear A40
 replace H := Option.bind_eq_some_iff.mp H
 obtain ⟨⟨t145, t146, t147, t148, t149, t150⟩, A50, H⟩ := H
 replace H : ((devices_Add.f t141 t145 t146 t147 t148 t149 t150).bind fun bt151 => ((testamurlaw42_show.f 1 1 3 1).bind fun bt155 => ((devices_Add.f t141 bt155.1 bt155.2.1 bt155.2.2.1 bt155.2.2.2.1 bt155.2.2.2.2.1 bt155.2.2.2.2.2).bind fun bt161 => ((devices_Merge.f ([] : List (S40)) t141).bind fun bt165 => ((devices_State.f t141 2 2).bind fun bt169 => ((devices_May.f t131 1 2 1 0).bind fun bt173 => ((devices_May.f t131 1 2 2 0).bind fun bt175 => ((devices_May.f t141 1 2 1 0).bind fun bt177 => ((devices_State.f ([] : List (S40)) 1 2).bind fun bt179 => ((devices_State.f ([] : List (S40)) 1 4).bind fun bt183 => ((devices_May.f ([] : List (S40)) 1 2 2 0).bind fun bt187 => (if t134 = 0 then (if t144 = 0 then (if bt151.2 = 0 then (if bt161.2 = 420 then (if bt165.2 = 0 then (if bt169.2 = 0 then (if bt173.2 = 0 then (if bt175.2 = 0 then (if bt177.2 = 0 then (if bt179.2 = 0 then (if bt183.2 = 1 then (if bt187.2 = 0 then (testamurlaw42_sane.j0 k t141 bt151.1 bt165.1 bt169.1 bt173.1 bt175.1 bt177.1 bt179.1 bt187.1) else (none)) else (none)) else (none)) else (none)) else (none)) else (none)) else (none)) else (none)) else (none)) else (none)) else (none)) else (none))))))))))))) = some r := H
 have A5 := Aside0.mk A50
 clear A50
 replace H := Option.bind_eq_some_iff.mp H
 obtain ⟨⟨t151, t154⟩, A60, H⟩ := H
 replace H : ((testamurlaw42_show.f 1 1 3 1).bind fun bt155 => ((devices_Add.f t141 bt155.1 bt155.2.1 bt155.2.2.1 bt155.2.2.2.1 bt155.2.2.2.2.1 bt155.2.2.2.2.2).bind fun bt161 => ((devices_Merge.f ([] : List (S40)) t141).bind fun bt165 => ((devices_State.f t141 2 2).bind fun bt169 => ((devices_May.f t131 1 2 1 0).bind fun bt173 => ((devices_May.f t131 1 2 2 0).bind fun bt175 => ((devices_May.f t141 1 2 1 0).bind fun bt177 => ((devices_State.f ([] : List (S40)) 1 2).bind fun bt179 => ((devices_State.f ([] : List (S40)) 1 4).bind fun bt183 => ((devices_May.f ([] : List (S40)) 1 2 2 0).bind fun bt187 => (if t134 = 0 then (if t144 = 0 then (if t154 = 0 then (if bt161.2 = 420 then (if bt165.2 = 0 then (if bt169.2 = 0 then (if bt173.2 = 0 then (if bt175.2 = 0 then (if bt177.2 = 0 then (if bt179.2 = 0 then (if bt183.2 = 1 then (if bt187.2 = 0 then (testamurlaw42_sane.j0 k t141 t151 bt165.1 bt169.1 bt173.1 bt175.1 bt177.1 bt179.1 bt187.1) else (none)) else (none)) else (none)) else (none)) else (none)) else (none)) else (none)) else (none)) else (none)) else (none)) else (none)) else (none)))))))))))) = some r := H
 have A6 := Aside0.mk A60
 clear A60
 replace H := Option.bind_eq_some_iff.mp H
 obtain ⟨⟨t155, t156, t157, t158, t159, t160⟩, A70, H⟩ := H
 replace H : ((devices_Add.f t141 t155 t156 t157 t158 t159 t160).bind fun bt161 => ((devices_Merge.f ([] : List (S40)) t141).bind fun bt165 => ((devices_State.f t141 2 2).bind fun bt169 => ((devices_May.f t131 1 2 1 0).bind fun bt173 => ((devices_May.f t131 1 2 2 0).bind fun bt175 => ((devices_May.f t141 1 2 1 0).bind fun bt177 => ((devices_State.f ([] : List (S40)) 1 2).bind fun bt179 => ((devices_State.f ([] : List (S40)) 1 4).bind fun bt183 => ((devices_May.f ([] : List (S40)) 1 2 2 0).bind fun bt187 => (if t134 = 0 then (if t144 = 0 then (if t154 = 0 then (if bt161.2 = 420 then (if bt165.2 = 0 then (if bt169.2 = 0 then (if bt173.2 = 0 then (if bt175.2 = 0 then (if bt177.2 = 0 then (if bt179.2 = 0 then (if bt183.2 = 1 then (if bt187.2 = 0 then (testamurlaw42_sane.j0 k t141 t151 bt165.1 bt169.1 bt173.1 bt175.1 bt177.1 bt179.1 bt187.1) else (none)) else (none)) else (none)) else (none)) else (none)) else (none)) else (none)) else (none)) else (none)) else (none)) else (none)) else (none))))))))))) = some r := H
 have A7 := Aside0.mk A70
 clear A70
 replace H := Option.bind_eq_some_iff.mp H
 obtain ⟨⟨t161, t164⟩, A80, H⟩ := H
 replace H : ((devices_Merge.f ([] : List (S40)) t141).bind fun bt165 => ((devices_State.f t141 2 2).bind fun bt169 => ((devices_May.f t131 1 2 1 0).bind fun bt173 => ((devices_May.f t131 1 2 2 0).bind fun bt175 => ((devices_May.f t141 1 2 1 0).bind fun bt177 => ((devices_State.f ([] : List (S40)) 1 2).bind fun bt179 => ((devices_State.f ([] : List (S40)) 1 4).bind fun bt183 => ((devices_May.f ([] : List (S40)) 1 2 2 0).bind fun bt187 => (if t134 = 0 then (if t144 = 0 then (if t154 = 0 then (if t164 = 420 then (if bt165.2 = 0 then (if bt169.2 = 0 then (if bt173.2 = 0 then (if bt175.2 = 0 then (if bt177.2 = 0 then (if bt179.2 = 0 then (if bt183.2 = 1 then (if bt187.2 = 0 then (testamurlaw42_sane.j0 k t141 t151 bt165.1 bt169.1 bt173.1 bt175.1 bt177.1 bt179.1 bt187.1) else (none)) else (none)) else (none)) else (none)) else (none)) else (none)) else (none)) else (none)) else (none)) else (none)) else (none)) else (none)))))))))) = some r := H
 have A8 := Aside0.mk A80
 clear A80
 replace H := Option.bind_eq_some_iff.mp H
 obtain ⟨⟨t165, t166⟩, A90, H⟩ := H
 replace H : ((devices_State.f t141 2 2).bind fun bt169 => ((devices_May.f t131 1 2 1 0).bind fun bt173 => ((devices_May.f t131 1 2 2 0).bind fun bt175 => ((devices_May.f t141 1 2 1 0).bind fun bt177 => ((devices_State.f ([] : List (S40)) 1 2).bind fun bt179 => ((devices_State.f ([] : List (S40)) 1 4).bind fun bt183 => ((devices_May.f ([] : List (S40)) 1 2 2 0).bind fun bt187 => (if t134 = 0 then (if t144 = 0 then (if t154 = 0 then (if t164 = 420 then (if t166 = 0 then (if bt169.2 = 0 then (if bt173.2 = 0 then (if bt175.2 = 0 then (if bt177.2 = 0 then (if bt179.2 = 0 then (if bt183.2 = 1 then (if bt187.2 = 0 then (testamurlaw42_sane.j0 k t141 t151 t165 bt169.1 bt173.1 bt175.1 bt177.1 bt179.1 bt187.1) else (none)) else (none)) else (none)) else (none)) else (none)) else (none)) else (none)) else (none)) else (none)) else (none)) else (none)) else (none))))))))) = some r := H
 have A9 := Aside0.mk A90
 clear A90
 replace H := Option.bind_eq_some_iff.mp H
 obtain ⟨⟨t169, t170⟩, A100, H⟩ := H
 replace H : ((devices_May.f t131 1 2 1 0).bind fun bt173 => ((devices_May.f t131 1 2 2 0).bind fun bt175 => ((devices_May.f t141 1 2 1 0).bind fun bt177 => ((devices_State.f ([] : List (S40)) 1 2).bind fun bt179 => ((devices_State.f ([] : List (S40)) 1 4).bind fun bt183 => ((devices_May.f ([] : List (S40)) 1 2 2 0).bind fun bt187 => (if t134 = 0 then (if t144 = 0 then (if t154 = 0 then (if t164 = 420 then (if t166 = 0 then (if t170 = 0 then (if bt173.2 = 0 then (if bt175.2 = 0 then (if bt177.2 = 0 then (if bt179.2 = 0 then (if bt183.2 = 1 then (if bt187.2 = 0 then (testamurlaw42_sane.j0 k t141 t151 t165 t169 bt173.1 bt175.1 bt177.1 bt179.1 bt187.1) else (none)) else (none)) else (none)) else (none)) else (none)) else (none)) else (none)) else (none)) else (none)) else (none)) else (none)) else (none)))))))) = some r := H
 have A10 := Aside0.mk A100
 clear A100
 replace H := Option.bind_eq_some_iff.mp H
 obtain ⟨⟨t173, t174⟩, A110, H⟩ := H
 replace H : ((devices_May.f t131 1 2 2 0).bind fun bt175 => ((devices_May.f t141 1 2 1 0).bind fun bt177 => ((devices_State.f ([] : List (S40)) 1 2).bind fun bt179 => ((devices_State.f ([] : List (S40)) 1 4).bind fun bt183 => ((devices_May.f ([] : List (S40)) 1 2 2 0).bind fun bt187 => (if t134 = 0 then (if t144 = 0 then (if t154 = 0 then (if t164 = 420 then (if t166 = 0 then (if t170 = 0 then (if t174 = 0 then (if bt175.2 = 0 then (if bt177.2 = 0 then (if bt179.2 = 0 then (if bt183.2 = 1 then (if bt187.2 = 0 then (testamurlaw42_sane.j0 k t141 t151 t165 t169 t173 bt175.1 bt177.1 bt179.1 bt187.1) else (none)) else (none)) else (none)) else (none)) else (none)) else (none)) else (none)) else (none)) else (none)) else (none)) else (none)) else (none))))))) = some r := H
 have A11 := Aside0.mk A110
 clear A110
 replace H := Option.bind_eq_some_iff.mp H
 obtain ⟨⟨t175, t176⟩, A120, H⟩ := H
 replace H : ((devices_May.f t141 1 2 1 0).bind fun bt177 => ((devices_State.f ([] : List (S40)) 1 2).bind fun bt179 => ((devices_State.f ([] : List (S40)) 1 4).bind fun bt183 => ((devices_May.f ([] : List (S40)) 1 2 2 0).bind fun bt187 => (if t134 = 0 then (if t144 = 0 then (if t154 = 0 then (if t164 = 420 then (if t166 = 0 then (if t170 = 0 then (if t174 = 0 then (if t176 = 0 then (if bt177.2 = 0 then (if bt179.2 = 0 then (if bt183.2 = 1 then (if bt187.2 = 0 then (testamurlaw42_sane.j0 k t141 t151 t165 t169 t173 t175 bt177.1 bt179.1 bt187.1) else (none)) else (none)) else (none)) else (none)) else (none)) else (none)) else (none)) else (none)) else (none)) else (none)) else (none)) else (none)))))) = some r := H
 have A12 := Aside0.mk A120
 clear A120
 replace H := Option.bind_eq_some_iff.mp H
 obtain ⟨⟨t177, t178⟩, A130, H⟩ := H
 replace H : ((devices_State.f ([] : List (S40)) 1 2).bind fun bt179 => ((devices_State.f ([] : List (S40)) 1 4).bind fun bt183 => ((devices_May.f ([] : List (S40)) 1 2 2 0).bind fun bt187 => (if t134 = 0 then (if t144 = 0 then (if t154 = 0 then (if t164 = 420 then (if t166 = 0 then (if t170 = 0 then (if t174 = 0 then (if t176 = 0 then (if t178 = 0 then (if bt179.2 = 0 then (if bt183.2 = 1 then (if bt187.2 = 0 then (testamurlaw42_sane.j0 k t141 t151 t165 t169 t173 t175 t177 bt179.1 bt187.1) else (none)) else (none)) else (none)) else (none)) else (none)) else (none)) else (none)) else (none)) else (none)) else (none)) else (none)) else (none))))) = some r := H
 have A13 := Aside0.mk A130
 clear A130
 replace H := Option.bind_eq_some_iff.mp H
 obtain ⟨⟨t179, t180⟩, A140, H⟩ := H
 replace H : ((devices_State.f ([] : List (S40)) 1 4).bind fun bt183 => ((devices_May.f ([] : List (S40)) 1 2 2 0).bind fun bt187 => (if t134 = 0 then (if t144 = 0 then (if t154 = 0 then (if t164 = 420 then (if t166 = 0 then (if t170 = 0 then (if t174 = 0 then (if t176 = 0 then (if t178 = 0 then (if t180 = 0 then (if bt183.2 = 1 then (if bt187.2 = 0 then (testamurlaw42_sane.j0 k t141 t151 t165 t169 t173 t175 t177 t179 bt187.1) else (none)) else (none)) else (none)) else (none)) else (none)) else (none)) else (none)) else (none)) else (none)) else (none)) else (none)) else (none)))) = some r := H
 have A14 := Aside0.mk A140
 clear A140
 replace H := Option.bind_eq_some_iff.mp H
 obtain ⟨⟨t183, t184⟩, A150, H⟩ := H
 replace H : ((devices_May.f ([] : List (S40)) 1 2 2 0).bind fun bt187 => (if t134 = 0 then (if t144 = 0 then (if t154 = 0 then (if t164 = 420 then (if t166 = 0 then (if t170 = 0 then (if t174 = 0 then (if t176 = 0 then (if t178 = 0 then (if t180 = 0 then (if t184 = 1 then (if bt187.2 = 0 then (testamurlaw42_sane.j0 k t141 t151 t165 t169 t173 t175 t177 t179 bt187.1) else (none)) else (none)) else (none)) else (none)) else (none)) else (none)) else (none)) else (none)) else (none)) else (none)) else (none)) else (none))) = some r := H
 have A15 := Aside0.mk A150
 clear A150
 replace H := Option.bind_eq_some_iff.mp H
 obtain ⟨⟨t187, t188⟩, A160, H⟩ := H
 replace H : (if t134 = 0 then (if t144 = 0 then (if t154 = 0 then (if t164 = 420 then (if t166 = 0 then (if t170 = 0 then (if t174 = 0 then (if t176 = 0 then (if t178 = 0 then (if t180 = 0 then (if t184 = 1 then (if t188 = 0 then (testamurlaw42_sane.j0 k t141 t151 t165 t169 t173 t175 t177 t179 t187) else (none)) else (none)) else (none)) else (none)) else (none)) else (none)) else (none)) else (none)) else (none)) else (none)) else (none)) else (none)) = some r := H
 have A16 := Aside0.mk A160
 clear A160
 by_cases c17 : t134 = 0
 ·rw [if_pos c17] at H
  have c17b0 : (t134 == 0) = true := beq_iff_eq.mpr c17
  have c17b1 : (t134 != 0) = false := bne_eq_false_iff_eq.mpr c17
  clear c17
  by_cases c18 : t144 = 0
  ·rw [if_pos c18] at H
   have c18b0 : (t144 == 0) = true := beq_iff_eq.mpr c18
   have c18b1 : (t144 != 0) = false := bne_eq_false_iff_eq.mpr c18
   clear c18
   by_cases c19 : t154 = 0
   ·rw [if_pos c19] at H
    have c19b0 : (t154 == 0) = true := beq_iff_eq.mpr c19
    have c19b1 : (t154 != 0) = false := bne_eq_false_iff_eq.mpr c19
    clear c19
    by_cases c20 : t164 = 420
    ·rw [if_pos c20] at H
     have c20b0 : (t164 == 420) = true := beq_iff_eq.mpr c20
     have c20b1 : (t164 != 420) = false := bne_eq_false_iff_eq.mpr c20
     clear c20
     by_cases c21 : t166 = 0
     ·rw [if_pos c21] at H
      have c21b0 : (t166 == 0) = true := beq_iff_eq.mpr c21
      have c21b1 : (t166 != 0) = false := bne_eq_false_iff_eq.mpr c21
      clear c21
      by_cases c22 : t170 = 0
      ·rw [if_pos c22] at H
       have c22b0 : (t170 == 0) = true := beq_iff_eq.mpr c22
       have c22b1 : (t170 != 0) = false := bne_eq_false_iff_eq.mpr c22
       clear c22
       by_cases c23 : t174 = 0
       ·rw [if_pos c23] at H
        have c23b0 : (t174 == 0) = true := beq_iff_eq.mpr c23
        have c23b1 : (t174 != 0) = false := bne_eq_false_iff_eq.mpr c23
        clear c23
        by_cases c24 : t176 = 0
        ·rw [if_pos c24] at H
         have c24b0 : (t176 == 0) = true := beq_iff_eq.mpr c24
         have c24b1 : (t176 != 0) = false := bne_eq_false_iff_eq.mpr c24
         clear c24
         by_cases c25 : t178 = 0
         ·rw [if_pos c25] at H
          have c25b0 : (t178 == 0) = true := beq_iff_eq.mpr c25
          have c25b1 : (t178 != 0) = false := bne_eq_false_iff_eq.mpr c25
          clear c25
          by_cases c26 : t180 = 0
          ·rw [if_pos c26] at H
           have c26b0 : (t180 == 0) = true := beq_iff_eq.mpr c26
           have c26b1 : (t180 != 0) = false := bne_eq_false_iff_eq.mpr c26
           clear c26
           by_cases c27 : t184 = 1
           ·rw [if_pos c27] at H
            have c27b0 : (t184 == 1) = true := beq_iff_eq.mpr c27
            have c27b1 : (t184 != 1) = false := bne_eq_false_iff_eq.mpr c27
            clear c27
            have HC28 := Aside0.mk H
            clear H
            go_enter Try.func25, Try.ntmps25
            try simp only [List.append]
            go_upto_if 130 with (first | ((with_reducible refine gate_callee (f := 59) rfl ?_); refine goesL_ (some 26) rfl rfl Try.func59 (by kernel_rfl) rfl #[.int .i64 2, .int .i64 1, .int .i64 0, .int .i64 1, .int .i64 1] rfl (by (try simp only [List.map_toArray, List.map_cons, List.map_nil]); first | done | rfl | (simp only [List.length_drop, List.length_take]; rfl)) ?_; (with_reducible refine (testamurlaw42_give.calls 2 1 0 1 1 t125 t126 t127 t128 t129 t130 _ A1.out).mono ?_); rintro e w29 ⟨rfl, hb⟩; refine ⟨_, rfl, ?_⟩; have n0_ := Aside0.mk (below_step (by repeat (first | (with_reducible first | exact HB.out | apply below_alloc | apply pw_below_drewN | apply below_drew1) | exact HB.out)) hb); clear HB; have HB := n0_; clear n0_; (try clear hb); (try clear hb2); (try clear hk); (try clear hi)) | ((with_reducible refine gate_callee (f := 23) rfl ?_); refine goesL_ (some 27) rfl rfl Try.func23 (by kernel_rfl) rfl #[.slice none 0 0, .agg #[.int .i64 t125, .int .i64 t126, .int .i64 t127, .int .i64 t128, .int .i64 t129, .int .i64 t130]] rfl (by (try simp only [List.map_toArray, List.map_cons, List.map_nil]); first | done | rfl | (simp only [List.length_drop, List.length_take]; rfl)) ?_; (refine (devices_Add.calls _ _ ([] : List (S40)) t125 t126 t127 t128 t129 t130 t131 t134 _ ?side1 ?side2 A2.out).mono ?_); (case side1 => exact Kd.C_nil _ _); (case side2 => exact Nat.le_refl _); rintro e w30 ⟨v132, rfl, ho0, hb⟩; refine ⟨_, rfl, ?_⟩; have n0_ := Aside0.mk (Kd.R_lower ho0 (below_size (by repeat (first | (with_reducible first | exact HB.out | apply below_alloc | apply pw_below_drewN | apply below_drew1) | exact HB.out)))); have n1_ := Aside0.mk (below_step (by repeat (first | (with_reducible first | exact HB.out | apply below_alloc | apply pw_below_drewN | apply below_drew1) | exact HB.out)) hb); clear HB; have HO133 := n0_; have HB := n1_; clear n0_ n1_; (try clear hb); (try clear hb2); (try clear hk); (try clear hi); (try clear ho0)) | ((with_reducible refine gate_callee (f := 60) rfl ?_); refine goesL_ (some 32) rfl rfl Try.func60 (by kernel_rfl) rfl #[.int .i64 1, .int .i64 1, .int .i64 0, .int .i64 2] rfl (by (try simp only [List.map_toArray, List.map_cons, List.map_nil]); first | done | rfl | (simp only [List.length_drop, List.length_take]; rfl)) ?_; (with_reducible refine (testamurlaw42_show.calls 1 1 0 2 t135 t136 t137 t138 t139 t140 _ A3.out).mono ?_); rintro e w31 ⟨rfl, hb⟩; refine ⟨_, rfl, ?_⟩; have n0_ := Aside0.mk (Kd.R_below (by (with_reducible repeat (first | apply Kd.R_alloc | apply Kd.R_drewN | apply Kd.R_drew)); exact HO133.out) hb); have n1_ := Aside0.mk (below_step (by repeat (first | (with_reducible first | exact HB.out | apply below_alloc | apply pw_below_drewN | apply below_drew1) | exact HB.out)) hb); clear HO133; clear HB; have HO133 := n0_; have HB := n1_; clear n0_ n1_; (try clear hb); (try clear hb2); (try clear hk); (try clear hi); obtain ⟨Ao32, co32, eo32⟩ := Kd.R_slice HO133.out; subst eo32) | ((with_reducible refine gate_callee (f := 23) rfl ?_); refine goesL_ (some 33) rfl rfl Try.func23 (by kernel_rfl) rfl #[.slice Ao32 t131.length co32, .agg #[.int .i64 t135, .int .i64 t136, .int .i64 t137, .int .i64 t138, .int .i64 t139, .int .i64 t140]] rfl (by (try simp only [List.map_toArray, List.map_cons, List.map_nil]); first | done | rfl | (simp only [List.length_drop, List.length_take]; rfl)) ?_; (with_reducible refine (devices_Add.calls _ _ t131 t135 t136 t137 t138 t139 t140 t141 t144 _ ?side1 ?side2 A4.out).mono ?_); (case side1 => repeat (first | exact (Kd.R_reads' HO133.out).2.2 | (with_reducible refine Kd.C_alloc ?_ _) | (with_reducible refine Kd.C_drewN ?_ _) | (with_reducible refine Kd.C_drew ?_))); (case side2 => exact (Kd.R_reads' HO133.out).2.1); rintro e w33 ⟨v142, rfl, ho0, hb⟩; refine ⟨_, rfl, ?_⟩; have n0_ := Aside0.mk (Kd.R_elder' (by (with_reducible repeat (first | apply Kd.R_alloc | apply Kd.R_drewN | apply Kd.R_drew)); exact HO133.out) (Kd.R_base ho0) hb); have n1_ := Aside0.mk (Kd.R_lower (Kd.R_new' ho0 (Kd.R_lt (by (with_reducible repeat (first | apply Kd.R_alloc | apply Kd.R_drewN | apply Kd.R_drew)); exact HO133.out))) (below_size (by repeat (first | (with_reducible first | exact HB.out | apply below_alloc | apply pw_below_drewN | apply below_drew1) | exact HB.out)))); have n2_ := Aside0.mk (below_step (by repeat (first | (with_reducible first | exact HB.out | apply below_alloc | apply pw_below_drewN | apply below_drew1) | exact HB.out)) hb); clear HO133; clear HB; have HO133 := n0_; have HO143 := n1_; have HB := n2_; clear n0_ n1_ n2_; (try clear hb); (try clear hb2); (try clear hk); (try clear hi); (try clear ho0)) | ((with_reducible refine gate_callee (f := 60) rfl ?_); refine goesL_ (some 38) rfl rfl Try.func60 (by kernel_rfl) rfl #[.int .i64 1, .int .i64 1, .int .i64 0, .int .i64 2] rfl (by (try simp only [List.map_toArray, List.map_cons, List.map_nil]); first | done | rfl | (simp only [List.length_drop, List.length_take]; rfl)) ?_; (with_reducible refine (testamurlaw42_show.calls 1 1 0 2 t145 t146 t147 t148 t149 t150 _ A5.out).mono ?_); rintro e w34 ⟨rfl, hb⟩; refine ⟨_, rfl, ?_⟩; have n0_ := Aside0.mk (Kd.R_below (by (with_reducible repeat (first | apply Kd.R_alloc | apply Kd.R_drewN | apply Kd.R_drew)); exact HO133.out) hb); have n1_ := Aside0.mk (Kd.R_below (by (with_reducible repeat (first | apply Kd.R_alloc | apply Kd.R_drewN | apply Kd.R_drew)); exact HO143.out) hb); have n2_ := Aside0.mk (below_step (by repeat (first | (with_reducible first | exact HB.out | apply below_alloc | apply pw_below_drewN | apply below_drew1) | exact HB.out)) hb); clear HO133; clear HO143; clear HB; have HO133 := n0_; have HO143 := n1_; have HB := n2_; clear n0_ n1_ n2_; (try clear hb); (try clear hb2); (try clear hk); (try clear hi); obtain ⟨Ao35, co35, eo35⟩ := Kd.R_slice HO143.out; subst eo35) | ((with_reducible refine gate_callee (f := 23) rfl ?_); refine goesL_ (some 39) rfl rfl Try.func23 (by kernel_rfl) rfl #[.slice Ao35 t141.length co35, .agg #[.int .i64 t145, .int .i64 t146, .int .i64 t147, .int .i64 t148, .int .i64 t149, .int .i64 t150]] rfl (by (try simp only [List.map_toArray, List.map_cons, List.map_nil]); first | done | rfl | (simp only [List.length_drop, List.length_take]; rfl)) ?_; (with_reducible refine (devices_Add.calls _ _ t141 t145 t146 t147 t148 t149 t150 t151 t154 _ ?side1 ?side2 A6.out).mono ?_); (case side1 => repeat (first | exact (Kd.R_reads' HO143.out).2.2 | (with_reducible refine Kd.C_alloc ?_ _) | (with_reducible refine Kd.C_drewN ?_ _) | (with_reducible refine Kd.C_drew ?_))); (case side2 => exact (Kd.R_reads' HO143.out).2.1); rintro e w36 ⟨v152, rfl, ho0, hb⟩; refine ⟨_, rfl, ?_⟩; have n0_ := Aside0.mk (Kd.R_elder' (by (with_reducible repeat (first | apply Kd.R_alloc | apply Kd.R_drewN | apply Kd.R_drew)); exact HO133.out) (Kd.R_base ho0) hb); have n1_ := Aside0.mk (Kd.R_elder' (by (with_reducible repeat (first | apply Kd.R_alloc | apply Kd.R_drewN | apply Kd.R_drew)); exact HO143.out) (Kd.R_base ho0) hb); have n2_ := Aside0.mk (Kd.R_lower (Kd.R_new' (Kd.R_new' ho0 (Kd.R_lt (by (with_reducible repeat (first | apply Kd.R_alloc | apply Kd.R_drewN | apply Kd.R_drew)); exact HO133.out))) (Kd.R_lt (by (with_reducible repeat (first | apply Kd.R_alloc | apply Kd.R_drewN | apply Kd.R_drew)); exact HO143.out))) (below_size (by repeat (first | (with_reducible first | exact HB.out | apply below_alloc | apply pw_below_drewN | apply below_drew1) | exact HB.out)))); have n3_ := Aside0.mk (below_step (by repeat (first | (with_reducible first | exact HB.out | apply below_alloc | apply pw_below_drewN | apply below_drew1) | exact HB.out)) hb); clear HO133; clear HO143; clear HB; have HO133 := n0_; have HO143 := n1_; have HO153 := n2_; have HB := n3_; clear n0_ n1_ n2_ n3_; (try clear hb); (try clear hb2); (try clear hk); (try clear hi); (try clear ho0)) | ((with_reducible refine gate_callee (f := 60) rfl ?_); refine goesL_ (some 44) rfl rfl Try.func60 (by kernel_rfl) rfl #[.int .i64 1, .int .i64 1, .int .i64 3, .int .i64 1] rfl (by (try simp only [List.map_toArray, List.map_cons, List.map_nil]); first | done | rfl | (simp only [List.length_drop, List.length_take]; rfl)) ?_; (with_reducible refine (testamurlaw42_show.calls 1 1 3 1 t155 t156 t157 t158 t159 t160 _ A7.out).mono ?_); rintro e w37 ⟨rfl, hb⟩; refine ⟨_, rfl, ?_⟩; have n0_ := Aside0.mk (Kd.R_below (by (with_reducible repeat (first | apply Kd.R_alloc | apply Kd.R_drewN | apply Kd.R_drew)); exact HO133.out) hb); have n1_ := Aside0.mk (Kd.R_below (by (with_reducible repeat (first | apply Kd.R_alloc | apply Kd.R_drewN | apply Kd.R_drew)); exact HO143.out) hb); have n2_ := Aside0.mk (Kd.R_below (by (with_reducible repeat (first | apply Kd.R_alloc | apply Kd.R_drewN | apply Kd.R_drew)); exact HO153.out) hb); have n3_ := Aside0.mk (below_step (by repeat (first | (with_reducible first | exact HB.out | apply below_alloc | apply pw_below_drewN | apply below_drew1) | exact HB.out)) hb); clear HO133; clear HO143; clear HO153; clear HB; have HO133 := n0_; have HO143 := n1_; have HO153 := n2_; have HB := n3_; clear n0_ n1_ n2_ n3_; (try clear hb); (try clear hb2); (try clear hk); (try clear hi)) | ((with_reducible refine gate_callee (f := 23) rfl ?_); refine goesL_ (some 45) rfl rfl Try.func23 (by kernel_rfl) rfl #[.slice Ao35 t141.length co35, .agg #[.int .i64 t155, .int .i64 t156, .int .i64 t157, .int .i64 t158, .int .i64 t159, .int .i64 t160]] rfl (by (try simp only [List.map_toArray, List.map_cons, List.map_nil]); first | done | rfl | (simp only [List.length_drop, List.length_take]; rfl)) ?_; (with_reducible refine (devices_Add.calls _ _ t141 t155 t156 t157 t158 t159 t160 t161 t164 _ ?side1 ?side2 A8.out).mono ?_); (case side1 => repeat (first | exact (Kd.R_reads' HO143.out).2.2 | (with_reducible refine Kd.C_alloc ?_ _) | (with_reducible refine Kd.C_drewN ?_ _) | (with_reducible refine Kd.C_drew ?_))); (case side2 => exact (Kd.R_reads' HO143.out).2.1); rintro e w38 ⟨v162, rfl, ho0, hb⟩; refine ⟨_, rfl, ?_⟩; have n0_ := Aside0.mk (Kd.R_elder' (by (with_reducible repeat (first | apply Kd.R_alloc | apply Kd.R_drewN | apply Kd.R_drew)); exact HO133.out) (Kd.R_base ho0) hb); have n1_ := Aside0.mk (Kd.R_elder' (by (with_reducible repeat (first | apply Kd.R_alloc | apply Kd.R_drewN | apply Kd.R_drew)); exact HO143.out) (Kd.R_base ho0) hb); have n2_ := Aside0.mk (Kd.R_elder' (by (with_reducible repeat (first | apply Kd.R_alloc | apply Kd.R_drewN | apply Kd.R_drew)); exact HO153.out) (Kd.R_base ho0) hb); have n3_ := Aside0.mk (Kd.R_lower (Kd.R_new' (Kd.R_new' (Kd.R_new' ho0 (Kd.R_lt (by (with_reducible repeat (first | apply Kd.R_alloc | apply Kd.R_drewN | apply Kd.R_drew)); exact HO133.out))) (Kd.R_lt (by (with_reducible repeat (first | apply Kd.R_alloc | apply Kd.R_drewN | apply Kd.R_drew)); exact HO143.out))) (Kd.R_lt (by (with_reducible repeat (first | apply Kd.R_alloc | apply Kd.R_drewN | apply Kd.R_drew)); exact HO153.out))) (below_size (by repeat (first | (with_reducible first | exact HB.out | apply below_alloc | apply pw_below_drewN | apply below_drew1) | exact HB.out)))); have n4_ := Aside0.mk (below_step (by repeat (first | (with_reducible first | exact HB.out | apply below_alloc | apply pw_below_drewN | apply below_drew1) | exact HB.out)) hb); clear HO133; clear HO143; clear HO153; clear HB; have HO133 := n0_; have HO143 := n1_; have HO153 := n2_; have HO163 := n3_; have HB := n4_; clear n0_ n1_ n2_ n3_ n4_; (try clear hb); (try clear hb2); (try clear hk); (try clear hi); (try clear ho0)) | ((with_reducible refine gate_callee (f := 31) rfl ?_); refine goesL_ (some 50) rfl rfl Try.func31 (by kernel_rfl) rfl #[.slice none 0 0, .slice Ao35 t141.length co35] rfl (by (try simp only [List.map_toArray, List.map_cons, List.map_nil]); first | done | rfl | (simp only [List.length_drop, List.length_take]; rfl)) ?_; (refine (devices_Merge.calls _ _ ([] : List (S40)) _ _ t141 t165 t166 _ ?side1 ?side2 ?side3 ?side4 A9.out).mono ?_); (case side1 => exact Kd.C_nil _ _); (case side2 => exact Nat.le_refl _); (case side3 => repeat (first | exact (Kd.R_reads' HO143.out).2.2 | (with_reducible refine Kd.C_alloc ?_ _) | (with_reducible refine Kd.C_drewN ?_ _) | (with_reducible refine Kd.C_drew ?_))); (case side4 => exact (Kd.R_reads' HO143.out).2.1); rintro e w39 ⟨v167, rfl, ho0, hb⟩; refine ⟨_, rfl, ?_⟩; have n0_ := Aside0.mk (Kd.R_elder' (by (with_reducible repeat (first | apply Kd.R_alloc | apply Kd.R_drewN | apply Kd.R_drew)); exact HO133.out) (Kd.R_base ho0) hb); have n1_ := Aside0.mk (Kd.R_elder' (by (with_reducible repeat (first | apply Kd.R_alloc | apply Kd.R_drewN | apply Kd.R_drew)); exact HO143.out) (Kd.R_base ho0) hb); have n2_ := Aside0.mk (Kd.R_elder' (by (with_reducible repeat (first | apply Kd.R_alloc | apply Kd.R_drewN | apply Kd.R_drew)); exact HO153.out) (Kd.R_base ho0) hb); have n3_ := Aside0.mk (Kd.R_elder' (by (with_reducible repeat (first | apply Kd.R_alloc | apply Kd.R_drewN | apply Kd.R_drew)); exact HO163.out) (Kd.R_base ho0) hb); have n4_ := Aside0.mk (Kd.R_lower (Kd.R_new' (Kd.R_new' (Kd.R_new' (Kd.R_new' ho0 (Kd.R_lt (by (with_reducible repeat (first | apply Kd.R_alloc | apply Kd.R_drewN | apply Kd.R_drew)); exact HO133.out))) (Kd.R_lt (by (with_reducible repeat (first | apply Kd.R_alloc | apply Kd.R_drewN | apply Kd.R_drew)); exact HO143.out))) (Kd.R_lt (by (with_reducible repeat (first | apply Kd.R_alloc | apply Kd.R_drewN | apply Kd.R_drew)); exact HO153.out))) (Kd.R_lt (by (with_reducible repeat (first | apply Kd.R_alloc | apply Kd.R_drewN | apply Kd.R_drew)); exact HO163.out))) (below_size (by repeat (first | (with_reducible first | exact HB.out | apply below_alloc | apply pw_below_drewN | apply below_drew1) | exact HB.out)))); have n5_ := Aside0.mk (below_step (by repeat (first | (with_reducible first | exact HB.out | apply below_alloc | apply pw_below_drewN | apply below_drew1) | exact HB.out)) hb); clear HO133; clear HO143; clear HO153; clear HO163; clear HB; have HO133 := n0_; have HO143 := n1_; have HO153 := n2_; have HO163 := n3_; have HO168 := n4_; have HB := n5_; clear n0_ n1_ n2_ n3_ n4_ n5_; (try clear hb); (try clear hb2); (try clear hk); (try clear hi); (try clear ho0)) | ((with_reducible refine gate_callee (f := 24) rfl ?_); refine goesL_ (some 55) rfl rfl Try.func24 (by kernel_rfl) rfl #[.slice Ao35 t141.length co35, .int .i64 2, .int .i64 2] rfl (by (try simp only [List.map_toArray, List.map_cons, List.map_nil]); first | done | rfl | (simp only [List.length_drop, List.length_take]; rfl)) ?_; (with_reducible refine (devices_State.calls _ _ t141 2 2 t169 t170 _ ?side1 ?side2 A10.out).mono ?_); (case side1 => repeat (first | exact (Kd.R_reads' HO143.out).2.2 | (with_reducible refine Kd.C_alloc ?_ _) | (with_reducible refine Kd.C_drewN ?_ _) | (with_reducible refine Kd.C_drew ?_))); (case side2 => exact (Kd.R_reads' HO143.out).2.1); rintro e w40 ⟨v171, rfl, ho0, hb⟩; refine ⟨_, rfl, ?_⟩; have n0_ := Aside0.mk (Kd.R_below (by (with_reducible repeat (first | apply Kd.R_alloc | apply Kd.R_drewN | apply Kd.R_drew)); exact HO133.out) hb); have n1_ := Aside0.mk (Kd.R_below (by (with_reducible repeat (first | apply Kd.R_alloc | apply Kd.R_drewN | apply Kd.R_drew)); exact HO143.out) hb); have n2_ := Aside0.mk (Kd.R_below (by (with_reducible repeat (first | apply Kd.R_alloc | apply Kd.R_drewN | apply Kd.R_drew)); exact HO153.out) hb); have n3_ := Aside0.mk (Kd.R_below (by (with_reducible repeat (first | apply Kd.R_alloc | apply Kd.R_drewN | apply Kd.R_drew)); exact HO163.out) hb); have n4_ := Aside0.mk (Kd.R_below (by (with_reducible repeat (first | apply Kd.R_alloc | apply Kd.R_drewN | apply Kd.R_drew)); exact HO168.out) hb); have n5_ := Aside0.mk (Kd.R_lower ho0 (below_size (by repeat (first | (with_reducible first | exact HB.out | apply below_alloc | apply pw_below_drewN | apply below_drew1) | exact HB.out)))); have n6_ := Aside0.mk (below_step (by repeat (first | (with_reducible first | exact HB.out | apply below_alloc | apply pw_below_drewN | apply below_drew1) | exact HB.out)) hb); clear HO133; clear HO143; clear HO153; clear HO163; clear HO168; clear HB; have HO133 := n0_; have HO143 := n1_; have HO153 := n2_; have HO163 := n3_; have HO168 := n4_; have HO172 := n5_; have HB := n6_; clear n0_ n1_ n2_ n3_ n4_ n5_ n6_; (try clear hb); (try clear hb2); (try clear hk); (try clear hi); (try clear ho0)) | ((with_reducible refine gate_callee (f := 34) rfl ?_); refine goesL_ (some 60) rfl rfl Try.func34 (by kernel_rfl) rfl #[.slice Ao32 t131.length co32, .int .i64 1, .int .i64 2, .int .i64 1, .int .i64 0] rfl (by (try simp only [List.map_toArray, List.map_cons, List.map_nil]); first | done | rfl | (simp only [List.length_drop, List.length_take]; rfl)) ?_; (with_reducible refine (devices_May.calls _ _ t131 1 2 1 0 t173 t174 _ ?side1 ?side2 A11.out).mono ?_); (case side1 => repeat (first | exact (Kd.R_reads' HO133.out).2.2 | (with_reducible refine Kd.C_alloc ?_ _) | (with_reducible refine Kd.C_drewN ?_ _) | (with_reducible refine Kd.C_drew ?_))); (case side2 => exact (Kd.R_reads' HO133.out).2.1); rintro e w41 ⟨rfl, hb⟩; refine ⟨_, rfl, ?_⟩; have n0_ := Aside0.mk (Kd.R_below (by (with_reducible repeat (first | apply Kd.R_alloc | apply Kd.R_drewN | apply Kd.R_drew)); exact HO133.out) hb); have n1_ := Aside0.mk (Kd.R_below (by (with_reducible repeat (first | apply Kd.R_alloc | apply Kd.R_drewN | apply Kd.R_drew)); exact HO143.out) hb); have n2_ := Aside0.mk (Kd.R_below (by (with_reducible repeat (first | apply Kd.R_alloc | apply Kd.R_drewN | apply Kd.R_drew)); exact HO153.out) hb); have n3_ := Aside0.mk (Kd.R_below (by (with_reducible repeat (first | apply Kd.R_alloc | apply Kd.R_drewN | apply Kd.R_drew)); exact HO163.out) hb); have n4_ := Aside0.mk (Kd.R_below (by (with_reducible repeat (first | apply Kd.R_alloc | apply Kd.R_drewN | apply Kd.R_drew)); exact HO168.out) hb); have n5_ := Aside0.mk (Kd.R_below (by (with_reducible repeat (first | apply Kd.R_alloc | apply Kd.R_drewN | apply Kd.R_drew)); exact HO172.out) hb); have n6_ := Aside0.mk (below_step (by repeat (first | (with_reducible first | exact HB.out | apply below_alloc | apply pw_below_drewN | apply below_drew1) | exact HB.out)) hb); clear HO133; clear HO143; clear HO153; clear HO163; clear HO168; clear HO172; clear HB; have HO133 := n0_; have HO143 := n1_; have HO153 := n2_; have HO163 := n3_; have HO168 := n4_; have HO172 := n5_; have HB := n6_; clear n0_ n1_ n2_ n3_ n4_ n5_ n6_; (try clear hb); (try clear hb2); (try clear hk); (try clear hi)) | ((with_reducible refine gate_callee (f := 34) rfl ?_); refine goesL_ (some 65) rfl rfl Try.func34 (by kernel_rfl) rfl #[.slice Ao32 t131.length co32, .int .i64 1, .int .i64 2, .int .i64 2, .int .i64 0] rfl (by (try simp only [List.map_toArray, List.map_cons, List.map_nil]); first | done | rfl | (simp only [List.length_drop, List.length_take]; rfl)) ?_; (with_reducible refine (devices_May.calls _ _ t131 1 2 2 0 t175 t176 _ ?side1 ?side2 A12.out).mono ?_); (case side1 => repeat (first | exact (Kd.R_reads' HO133.out).2.2 | (with_reducible refine Kd.C_alloc ?_ _) | (with_reducible refine Kd.C_drewN ?_ _) | (with_reducible refine Kd.C_drew ?_))); (case side2 => exact (Kd.R_reads' HO133.out).2.1); rintro e w42 ⟨rfl, hb⟩; refine ⟨_, rfl, ?_⟩; have n0_ := Aside0.mk (Kd.R_below (by (with_reducible repeat (first | apply Kd.R_alloc | apply Kd.R_drewN | apply Kd.R_drew)); exact HO133.out) hb); have n1_ := Aside0.mk (Kd.R_below (by (with_reducible repeat (first | apply Kd.R_alloc | apply Kd.R_drewN | apply Kd.R_drew)); exact HO143.out) hb); have n2_ := Aside0.mk (Kd.R_below (by (with_reducible repeat (first | apply Kd.R_alloc | apply Kd.R_drewN | apply Kd.R_drew)); exact HO153.out) hb); have n3_ := Aside0.mk (Kd.R_below (by (with_reducible repeat (first | apply Kd.R_alloc | apply Kd.R_drewN | apply Kd.R_drew)); exact HO163.out) hb); have n4_ := Aside0.mk (Kd.R_below (by (with_reducible repeat (first | apply Kd.R_alloc | apply Kd.R_drewN | apply Kd.R_drew)); exact HO168.out) hb); have n5_ := Aside0.mk (Kd.R_below (by (with_reducible repeat (first | apply Kd.R_alloc | apply Kd.R_drewN | apply Kd.R_drew)); exact HO172.out) hb); have n6_ := Aside0.mk (below_step (by repeat (first | (with_reducible first | exact HB.out | apply below_alloc | apply pw_below_drewN | apply below_drew1) | exact HB.out)) hb); clear HO133; clear HO143; clear HO153; clear HO163; clear HO168; clear HO172; clear HB; have HO133 := n0_; have HO143 := n1_; have HO153 := n2_; have HO163 := n3_; have HO168 := n4_; have HO172 := n5_; have HB := n6_; clear n0_ n1_ n2_ n3_ n4_ n5_ n6_; (try clear hb); (try clear hb2); (try clear hk); (try clear hi)) | ((with_reducible refine gate_callee (f := 34) rfl ?_); refine goesL_ (some 70) rfl rfl Try.func34 (by kernel_rfl) rfl #[.slice Ao35 t141.length co35, .int .i64 1, .int .i64 2, .int .i64 1, .int .i64 0] rfl (by (try simp only [List.map_toArray, List.map_cons, List.map_nil]); first | done | rfl | (simp only [List.length_drop, List.length_take]; rfl)) ?_; (with_reducible refine (devices_May.calls _ _ t141 1 2 1 0 t177 t178 _ ?side1 ?side2 A13.out).mono ?_); (case side1 => repeat (first | exact (Kd.R_reads' HO143.out).2.2 | (with_reducible refine Kd.C_alloc ?_ _) | (with_reducible refine Kd.C_drewN ?_ _) | (with_reducible refine Kd.C_drew ?_))); (case side2 => exact (Kd.R_reads' HO143.out).2.1); rintro e w43 ⟨rfl, hb⟩; refine ⟨_, rfl, ?_⟩; have n0_ := Aside0.mk (Kd.R_below (by (with_reducible repeat (first | apply Kd.R_alloc | apply Kd.R_drewN | apply Kd.R_drew)); exact HO133.out) hb); have n1_ := Aside0.mk (Kd.R_below (by (with_reducible repeat (first | apply Kd.R_alloc | apply Kd.R_drewN | apply Kd.R_drew)); exact HO143.out) hb); have n2_ := Aside0.mk (Kd.R_below (by (with_reducible repeat (first | apply Kd.R_alloc | apply Kd.R_drewN | apply Kd.R_drew)); exact HO153.out) hb); have n3_ := Aside0.mk (Kd.R_below (by (with_reducible repeat (first | apply Kd.R_alloc | apply Kd.R_drewN | apply Kd.R_drew)); exact HO163.out) hb); have n4_ := Aside0.mk (Kd.R_below (by (with_reducible repeat (first | apply Kd.R_alloc | apply Kd.R_drewN | apply Kd.R_drew)); exact HO168.out) hb); have n5_ := Aside0.mk (Kd.R_below (by (with_reducible repeat (first | apply Kd.R_alloc | apply Kd.R_drewN | apply Kd.R_drew)); exact HO172.out) hb); have n6_ := Aside0.mk (below_step (by repeat (first | (with_reducible first | exact HB.out | apply below_alloc | apply pw_below_drewN | apply below_drew1) | exact HB.out)) hb); clear HO133; clear HO143; clear HO153; clear HO163; clear HO168; clear HO172; clear HB; have HO133 := n0_; have HO143 := n1_; have HO153 := n2_; have HO163 := n3_; have HO168 := n4_; have HO172 := n5_; have HB := n6_; clear n0_ n1_ n2_ n3_ n4_ n5_ n6_; (try clear hb); (try clear hb2); (try clear hk); (try clear hi)) | ((with_reducible refine gate_callee (f := 24) rfl ?_); refine goesL_ (some 74) rfl rfl Try.func24 (by kernel_rfl) rfl #[.slice none 0 0, .int .i64 1, .int .i64 2] rfl (by (try simp only [List.map_toArray, List.map_cons, List.map_nil]); first | done | rfl | (simp only [List.length_drop, List.length_take]; rfl)) ?_; (refine (devices_State.calls _ _ ([] : List (S40)) 1 2 t179 t180 _ ?side1 ?side2 A14.out).mono ?_); (case side1 => exact Kd.C_nil _ _); (case side2 => exact Nat.le_refl _); rintro e w44 ⟨v181, rfl, ho0, hb⟩; refine ⟨_, rfl, ?_⟩; have n0_ := Aside0.mk (Kd.R_below (by (with_reducible repeat (first | apply Kd.R_alloc | apply Kd.R_drewN | apply Kd.R_drew)); exact HO133.out) hb); have n1_ := Aside0.mk (Kd.R_below (by (with_reducible repeat (first | apply Kd.R_alloc | apply Kd.R_drewN | apply Kd.R_drew)); exact HO143.out) hb); have n2_ := Aside0.mk (Kd.R_below (by (with_reducible repeat (first | apply Kd.R_alloc | apply Kd.R_drewN | apply Kd.R_drew)); exact HO153.out) hb); have n3_ := Aside0.mk (Kd.R_below (by (with_reducible repeat (first | apply Kd.R_alloc | apply Kd.R_drewN | apply Kd.R_drew)); exact HO163.out) hb); have n4_ := Aside0.mk (Kd.R_below (by (with_reducible repeat (first | apply Kd.R_alloc | apply Kd.R_drewN | apply Kd.R_drew)); exact HO168.out) hb); have n5_ := Aside0.mk (Kd.R_elder' (by (with_reducible repeat (first | apply Kd.R_alloc | apply Kd.R_drewN | apply Kd.R_drew)); exact HO172.out) (Kd.R_base ho0) hb); have n6_ := Aside0.mk (Kd.R_lower (Kd.R_new' ho0 (Kd.R_lt (by (with_reducible repeat (first | apply Kd.R_alloc | apply Kd.R_drewN | apply Kd.R_drew)); exact HO172.out))) (below_size (by repeat (first | (with_reducible first | exact HB.out | apply below_alloc | apply pw_below_drewN | apply below_drew1) | exact HB.out)))); have n7_ := Aside0.mk (below_step (by repeat (first | (with_reducible first | exact HB.out | apply below_alloc | apply pw_below_drewN | apply below_drew1) | exact HB.out)) hb); clear HO133; clear HO143; clear HO153; clear HO163; clear HO168; clear HO172; clear HB; have HO133 := n0_; have HO143 := n1_; have HO153 := n2_; have HO163 := n3_; have HO168 := n4_; have HO172 := n5_; have HO182 := n6_; have HB := n7_; clear n0_ n1_ n2_ n3_ n4_ n5_ n6_ n7_; (try clear hb); (try clear hb2); (try clear hk); (try clear hi); (try clear ho0)) | ((with_reducible refine gate_callee (f := 24) rfl ?_); refine goesL_ (some 78) rfl rfl Try.func24 (by kernel_rfl) rfl #[.slice none 0 0, .int .i64 1, .int .i64 4] rfl (by (try simp only [List.map_toArray, List.map_cons, List.map_nil]); first | done | rfl | (simp only [List.length_drop, List.length_take]; rfl)) ?_; (refine (devices_State.calls _ _ ([] : List (S40)) 1 4 t183 t184 _ ?side1 ?side2 A15.out).mono ?_); (case side1 => exact Kd.C_nil _ _); (case side2 => exact Nat.le_refl _); rintro e w45 ⟨v185, rfl, ho0, hb⟩; refine ⟨_, rfl, ?_⟩; have n0_ := Aside0.mk (Kd.R_below (by (with_reducible repeat (first | apply Kd.R_alloc | apply Kd.R_drewN | apply Kd.R_drew)); exact HO133.out) hb); have n1_ := Aside0.mk (Kd.R_below (by (with_reducible repeat (first | apply Kd.R_alloc | apply Kd.R_drewN | apply Kd.R_drew)); exact HO143.out) hb); have n2_ := Aside0.mk (Kd.R_below (by (with_reducible repeat (first | apply Kd.R_alloc | apply Kd.R_drewN | apply Kd.R_drew)); exact HO153.out) hb); have n3_ := Aside0.mk (Kd.R_below (by (with_reducible repeat (first | apply Kd.R_alloc | apply Kd.R_drewN | apply Kd.R_drew)); exact HO163.out) hb); have n4_ := Aside0.mk (Kd.R_below (by (with_reducible repeat (first | apply Kd.R_alloc | apply Kd.R_drewN | apply Kd.R_drew)); exact HO168.out) hb); have n5_ := Aside0.mk (Kd.R_elder' (by (with_reducible repeat (first | apply Kd.R_alloc | apply Kd.R_drewN | apply Kd.R_drew)); exact HO172.out) (Kd.R_base ho0) hb); have n6_ := Aside0.mk (Kd.R_elder' (by (with_reducible repeat (first | apply Kd.R_alloc | apply Kd.R_drewN | apply Kd.R_drew)); exact HO182.out) (Kd.R_base ho0) hb); have n7_ := Aside0.mk (Kd.R_lower (Kd.R_new' (Kd.R_new' ho0 (Kd.R_lt (by (with_reducible repeat (first | apply Kd.R_alloc | apply Kd.R_drewN | apply Kd.R_drew)); exact HO172.out))) (Kd.R_lt (by (with_reducible repeat (first | apply Kd.R_alloc | apply Kd.R_drewN | apply Kd.R_drew)); exact HO182.out))) (below_size (by repeat (first | (with_reducible first | exact HB.out | apply below_alloc | apply pw_below_drewN | apply below_drew1) | exact HB.out)))); have n8_ := Aside0.mk (below_step (by repeat (first | (with_reducible first | exact HB.out | apply below_alloc | apply pw_below_drewN | apply below_drew1) | exact HB.out)) hb); clear HO133; clear HO143; clear HO153; clear HO163; clear HO168; clear HO172; clear HO182; clear HB; have HO133 := n0_; have HO143 := n1_; have HO153 := n2_; have HO163 := n3_; have HO168 := n4_; have HO172 := n5_; have HO182 := n6_; have HO186 := n7_; have HB := n8_; clear n0_ n1_ n2_ n3_ n4_ n5_ n6_ n7_ n8_; (try clear hb); (try clear hb2); (try clear hk); (try clear hi); (try clear ho0)) | ((with_reducible refine gate_callee (f := 34) rfl ?_); refine goesL_ (some 82) rfl rfl Try.func34 (by kernel_rfl) rfl #[.slice none 0 0, .int .i64 1, .int .i64 2, .int .i64 2, .int .i64 0] rfl (by (try simp only [List.map_toArray, List.map_cons, List.map_nil]); first | done | rfl | (simp only [List.length_drop, List.length_take]; rfl)) ?_; (refine (devices_May.calls _ _ ([] : List (S40)) 1 2 2 0 t187 t188 _ ?side1 ?side2 A16.out).mono ?_); (case side1 => exact Kd.C_nil _ _); (case side2 => exact Nat.le_refl _); rintro e w46 ⟨rfl, hb⟩; refine ⟨_, rfl, ?_⟩; have n0_ := Aside0.mk (Kd.R_below (by (with_reducible repeat (first | apply Kd.R_alloc | apply Kd.R_drewN | apply Kd.R_drew)); exact HO133.out) hb); have n1_ := Aside0.mk (Kd.R_below (by (with_reducible repeat (first | apply Kd.R_alloc | apply Kd.R_drewN | apply Kd.R_drew)); exact HO143.out) hb); have n2_ := Aside0.mk (Kd.R_below (by (with_reducible repeat (first | apply Kd.R_alloc | apply Kd.R_drewN | apply Kd.R_drew)); exact HO153.out) hb); have n3_ := Aside0.mk (Kd.R_below (by (with_reducible repeat (first | apply Kd.R_alloc | apply Kd.R_drewN | apply Kd.R_drew)); exact HO163.out) hb); have n4_ := Aside0.mk (Kd.R_below (by (with_reducible repeat (first | apply Kd.R_alloc | apply Kd.R_drewN | apply Kd.R_drew)); exact HO168.out) hb); have n5_ := Aside0.mk (Kd.R_below (by (with_reducible repeat (first | apply Kd.R_alloc | apply Kd.R_drewN | apply Kd.R_drew)); exact HO172.out) hb); have n6_ := Aside0.mk (Kd.R_below (by (with_reducible repeat (first | apply Kd.R_alloc | apply Kd.R_drewN | apply Kd.R_drew)); exact HO182.out) hb); have n7_ := Aside0.mk (Kd.R_below (by (with_reducible repeat (first | apply Kd.R_alloc | apply Kd.R_drewN | apply Kd.R_drew)); exact HO186.out) hb); have n8_ := Aside0.mk (below_step (by repeat (first | (with_reducible first | exact HB.out | apply below_alloc | apply pw_below_drewN | apply below_drew1) | exact HB.out)) hb); clear HO133; clear HO143; clear HO153; clear HO163; clear HO168; clear HO172; clear HO182; clear HO186; clear HB; have HO133 := n0_; have HO143 := n1_; have HO153 := n2_; have HO163 := n3_; have HO168 := n4_; have HO172 := n5_; have HO182 := n6_; have HO186 := n7_; have HB := n8_; clear n0_ n1_ n2_ n3_ n4_ n5_ n6_ n7_ n8_; (try clear hb); (try clear hb2); (try clear hk); (try clear hi)))
            (try simp only [Act.put, List.setIfInBounds_toArray, List.set_cons_zero, List.set_cons_succ])
            go_cut [] (fun wc => ∃ (kq : Nat), Aside0 (testamurlaw42_sane.j0 kq t141 t151 t165 t169 t173 t175 t177 t179 t187 = some r) ∧ Aside0 (kq ≤ k) ∧ Aside0 (Kd.R k40 40 wc w.heap.size (fun k_ => some k_ ≠ (v152 : Value).ownBlock ∧ some k_ ≠ (v167 : Value).ownBlock) (.slice Ao35 t141.length co35) t141) ∧ Aside0 (Kd.R k40 40 wc w.heap.size (fun k_ => some k_ ≠ ((.slice Ao35 t141.length co35) : Value).ownBlock ∧ some k_ ≠ (v167 : Value).ownBlock) v152 t151) ∧ Aside0 (Kd.R k40 40 wc w.heap.size (fun k_ => some k_ ≠ ((.slice Ao35 t141.length co35) : Value).ownBlock ∧ some k_ ≠ (v152 : Value).ownBlock) v167 t165) ∧ Aside0 (Kd.R k47 47 wc w.heap.size (fun k_ => some k_ ≠ (v181 : Value).ownBlock) v171 t169) ∧ Aside0 (Kd.R k47 47 wc w.heap.size (fun k_ => some k_ ≠ (v171 : Value).ownBlock) v181 t179) ∧ Aside0 (Below w.heap.size w wc))
            case first =>
             have H := HC28.out
             clear HC28
             by_cases c47 : t188 = 0
             ·rw [if_pos c47] at H
              have c47b0 : (t188 == 0) = true := beq_iff_eq.mpr c47
              have c47b1 : (t188 != 0) = false := bne_eq_false_iff_eq.mpr c47
              clear c47
              (first | rw [c47b0] | (simp only [i64_w, i32_w]; rw [c47b0]) | skip)
              have H' := Aside0.mk H
              clear H
              go_wp2
              go_meet
              case rel => exact ⟨_, H', ⟨by first | omega | exact Nat.le_refl _⟩, ⟨by (with_reducible repeat (first | apply Kd.R_alloc | apply Kd.R_drewN | apply Kd.R_drew)); exact Kd.R_mono HO143.out (fun _ hk => ⟨hk.1.1.2, hk.2⟩)⟩, ⟨by (with_reducible repeat (first | apply Kd.R_alloc | apply Kd.R_drewN | apply Kd.R_drew)); exact Kd.R_mono HO153.out (fun _ hk => ⟨hk.1.1.2, hk.2⟩)⟩, ⟨by (with_reducible repeat (first | apply Kd.R_alloc | apply Kd.R_drewN | apply Kd.R_drew)); exact Kd.R_mono HO168.out (fun _ hk => ⟨hk.1.1.2, hk.1.2⟩)⟩, ⟨by (with_reducible repeat (first | apply Kd.R_alloc | apply Kd.R_drewN | apply Kd.R_drew)); exact Kd.R_mono HO172.out (fun _ hk => hk.1.2)⟩, ⟨by (with_reducible repeat (first | apply Kd.R_alloc | apply Kd.R_drewN | apply Kd.R_drew)); exact Kd.R_mono HO182.out (fun _ hk => hk.1.2)⟩, ⟨by repeat (first | (with_reducible first | exact HB.out | apply below_alloc | apply pw_below_drewN | apply below_drew1) | exact HB.out)⟩⟩
             ·rw [if_neg c47] at H
              exact absurd H (by simp)
            case rest =>
             clear HC28
             try clear c1
             try clear c2
             try clear p2
             try clear c3
             try clear c4
             try clear c5
             try clear c6
             try clear c17
             try clear c17b0
             try clear c17b1
             try clear c18
             try clear c18b0
             try clear c18b1
             try clear c19
             try clear c19b0
             try clear c19b1
             try clear c20
             try clear c20b0
             try clear c20b1
             try clear c21
             try clear c21b0
             try clear c21b1
             try clear c22
             try clear c22b0
             try clear c22b1
             try clear c23
             try clear c23b0
             try clear c23b1
             try clear c24
             try clear c24b0
             try clear c24b1
             try clear c25
             try clear c25b0
             try clear c25b1
             try clear c26
             try clear c26b0
             try clear c26b1
             try clear c27
             try clear c27b0
             try clear c27b1
             try clear c31
             try clear c34
             try clear c47
             try clear c47b0
             try clear c47b1
             obtain ⟨kq, HA, HJ27, HO_3, HO_5, HO_9, HO_11, HO_19, HB⟩ := hcut
             cases kq with
             | zero => exact absurd HA.out (by simp [testamurlaw42_sane.j0])
             | succ kj27 =>
              have H := HA.out
              clear HA
              simp only [testamurlaw42_sane.j0] at H
              replace H := Option.bind_eq_some_iff.mp H
              obtain ⟨t189, A480, H⟩ := H
              replace H : (if t189 = true then ((testamurref42_Same.f kj27 t165 t141).bind fun t190 => (if t190 = true then (if (t141.length : Int) = 2 then ((testamurref42_SameState.f kj27 t169 (([(⟨0, 1, 2, true⟩ : S47), (⟨1, 2, 0, false⟩ : S47)] : List (S47)))).bind fun t194 => (if t194 = true then (if t173 = true then (if t175 = true then (none) else (if t177 = true then (none) else ((testamurref42_SameState.f kj27 t179 (([(⟨0, 2, 0, false⟩ : S47)] : List (S47)))).bind fun t198 => (if t198 = true then (if t187 = true then ((devices_Check.f ([] : List (S40))).bind fun t199 => (if t199 = 0 then ((devices_Check.f (([(⟨0, 0, 0, 0, 0, 0⟩ : S40)] : List (S40)))).bind fun t203 => (some (t203 == 420))) else (none))) else (none)) else (none))))) else (none)) else (none))) else (none)) else (none))) else (none)) = some r := H
              have A48 := Aside0.mk A480
              clear A480
              by_cases c49 : t189 = true
              ·subst c49
               have H1 : ((testamurref42_Same.f kj27 t165 t141).bind fun t190 => (if t190 = true then (if (t141.length : Int) = 2 then ((testamurref42_SameState.f kj27 t169 (([(⟨0, 1, 2, true⟩ : S47), (⟨1, 2, 0, false⟩ : S47)] : List (S47)))).bind fun t194 => (if t194 = true then (if t173 = true then (if t175 = true then (none) else (if t177 = true then (none) else ((testamurref42_SameState.f kj27 t179 (([(⟨0, 2, 0, false⟩ : S47)] : List (S47)))).bind fun t198 => (if t198 = true then (if t187 = true then ((devices_Check.f ([] : List (S40))).bind fun t199 => (if t199 = 0 then ((devices_Check.f (([(⟨0, 0, 0, 0, 0, 0⟩ : S40)] : List (S40)))).bind fun t203 => (some (t203 == 420))) else (none))) else (none)) else (none))))) else (none)) else (none))) else (none)) else (none))) = some r := by rw [if_pos rfl] at H; exact H
               clear H
               have H := H1
               clear H1
               replace H := Option.bind_eq_some_iff.mp H
               obtain ⟨t190, A500, H⟩ := H
               replace H : (if t190 = true then (if (t141.length : Int) = 2 then ((testamurref42_SameState.f kj27 t169 (([(⟨0, 1, 2, true⟩ : S47), (⟨1, 2, 0, false⟩ : S47)] : List (S47)))).bind fun t194 => (if t194 = true then (if t173 = true then (if t175 = true then (none) else (if t177 = true then (none) else ((testamurref42_SameState.f kj27 t179 (([(⟨0, 2, 0, false⟩ : S47)] : List (S47)))).bind fun t198 => (if t198 = true then (if t187 = true then ((devices_Check.f ([] : List (S40))).bind fun t199 => (if t199 = 0 then ((devices_Check.f (([(⟨0, 0, 0, 0, 0, 0⟩ : S40)] : List (S40)))).bind fun t203 => (some (t203 == 420))) else (none))) else (none)) else (none))))) else (none)) else (none))) else (none)) else (none)) = some r := H
               have A50 := Aside0.mk A500
               clear A500
               by_cases c51 : t190 = true
               ·subst c51
                have H1 : (if (t141.length : Int) = 2 then ((testamurref42_SameState.f kj27 t169 (([(⟨0, 1, 2, true⟩ : S47), (⟨1, 2, 0, false⟩ : S47)] : List (S47)))).bind fun t194 => (if t194 = true then (if t173 = true then (if t175 = true then (none) else (if t177 = true then (none) else ((testamurref42_SameState.f kj27 t179 (([(⟨0, 2, 0, false⟩ : S47)] : List (S47)))).bind fun t198 => (if t198 = true then (if t187 = true then ((devices_Check.f ([] : List (S40))).bind fun t199 => (if t199 = 0 then ((devices_Check.f (([(⟨0, 0, 0, 0, 0, 0⟩ : S40)] : List (S40)))).bind fun t203 => (some (t203 == 420))) else (none))) else (none)) else (none))))) else (none)) else (none))) else (none)) = some r := by rw [if_pos rfl] at H; exact H
                clear H
                have H := H1
                clear H1
                by_cases c52 : (t141.length : Int) = 2
                ·rw [if_pos c52] at H
                 have c52b0 : ((t141.length : Int) == 2) = true := beq_iff_eq.mpr c52
                 have c52b1 : ((t141.length : Int) != 2) = false := bne_eq_false_iff_eq.mpr c52
                 clear c52
                 obtain ⟨y191, hy191⟩ : ∃ y_ : List (S47), y_ = (([(⟨0, 1, 2, true⟩ : S47), (⟨1, 2, 0, false⟩ : S47)] : List (S47))) := ⟨_, rfl⟩
                 replace H : ((testamurref42_SameState.f kj27 t169 y191).bind fun t194 => (if t194 = true then (if t173 = true then (if t175 = true then (none) else (if t177 = true then (none) else ((testamurref42_SameState.f kj27 t179 (([(⟨0, 2, 0, false⟩ : S47)] : List (S47)))).bind fun t198 => (if t198 = true then (if t187 = true then ((devices_Check.f ([] : List (S40))).bind fun t199 => (if t199 = 0 then ((devices_Check.f (([(⟨0, 0, 0, 0, 0, 0⟩ : S40)] : List (S40)))).bind fun t203 => (some (t203 == 420))) else (none))) else (none)) else (none))))) else (none)) else (none))) = some r := by first | (rw [hy191]; with_reducible exact H) | (have H2_ := (Option.bind_some _ _).symm.trans H; rw [hy191]; with_reducible exact H2_) | (have H2_ := (Option.bind_some _ _).symm.trans H; with_reducible exact H2_) | with_reducible exact H | (rw [hy191]; exact H) | exact H
                 have Ny191 := Aside0.mk hy191
                 clear hy191
                 replace H := Option.bind_eq_some_iff.mp H
                 obtain ⟨t194, A530, H⟩ := H
                 replace H : (if t194 = true then (if t173 = true then (if t175 = true then (none) else (if t177 = true then (none) else ((testamurref42_SameState.f kj27 t179 (([(⟨0, 2, 0, false⟩ : S47)] : List (S47)))).bind fun t198 => (if t198 = true then (if t187 = true then ((devices_Check.f ([] : List (S40))).bind fun t199 => (if t199 = 0 then ((devices_Check.f (([(⟨0, 0, 0, 0, 0, 0⟩ : S40)] : List (S40)))).bind fun t203 => (some (t203 == 420))) else (none))) else (none)) else (none))))) else (none)) else (none)) = some r := H
                 have A53 := Aside0.mk A530
                 clear A530
                 by_cases c54 : t194 = true
                 ·subst c54
                  have H1 : (if t173 = true then (if t175 = true then (none) else (if t177 = true then (none) else ((testamurref42_SameState.f kj27 t179 (([(⟨0, 2, 0, false⟩ : S47)] : List (S47)))).bind fun t198 => (if t198 = true then (if t187 = true then ((devices_Check.f ([] : List (S40))).bind fun t199 => (if t199 = 0 then ((devices_Check.f (([(⟨0, 0, 0, 0, 0, 0⟩ : S40)] : List (S40)))).bind fun t203 => (some (t203 == 420))) else (none))) else (none)) else (none))))) else (none)) = some r := by rw [if_pos rfl] at H; exact H
                  clear H
                  have H := H1
                  clear H1
                  by_cases c55 : t173 = true
                  ·subst c55
                   have H1 : (if t175 = true then (none) else (if t177 = true then (none) else ((testamurref42_SameState.f kj27 t179 (([(⟨0, 2, 0, false⟩ : S47)] : List (S47)))).bind fun t198 => (if t198 = true then (if t187 = true then ((devices_Check.f ([] : List (S40))).bind fun t199 => (if t199 = 0 then ((devices_Check.f (([(⟨0, 0, 0, 0, 0, 0⟩ : S40)] : List (S40)))).bind fun t203 => (some (t203 == 420))) else (none))) else (none)) else (none))))) = some r := by rw [if_pos rfl] at H; exact H
                   clear H
                   have H := H1
                   clear H1
                   by_cases c56 : t175 = true
                   ·subst c56
                    have H1 : (none) = some r := by rw [if_pos rfl] at H; exact H
                    clear H
                    have H := H1
                    clear H1
                    exact absurd H (by simp)
                   ·replace c56 := Bool.eq_false_iff.mpr c56
                    subst c56
                    have H1 : (if t177 = true then (none) else ((testamurref42_SameState.f kj27 t179 (([(⟨0, 2, 0, false⟩ : S47)] : List (S47)))).bind fun t198 => (if t198 = true then (if t187 = true then ((devices_Check.f ([] : List (S40))).bind fun t199 => (if t199 = 0 then ((devices_Check.f (([(⟨0, 0, 0, 0, 0, 0⟩ : S40)] : List (S40)))).bind fun t203 => (some (t203 == 420))) else (none))) else (none)) else (none)))) = some r := by rw [if_neg (show ¬ (false = true) by decide)] at H; exact H
                    clear H
                    have H := H1
                    clear H1
                    by_cases c57 : t177 = true
                    ·subst c57
                     have H1 : (none) = some r := by rw [if_pos rfl] at H; exact H
                     clear H
                     have H := H1
                     clear H1
                     exact absurd H (by simp)
                    ·replace c57 := Bool.eq_false_iff.mpr c57
                     subst c57
                     have H1 : ((testamurref42_SameState.f kj27 t179 (([(⟨0, 2, 0, false⟩ : S47)] : List (S47)))).bind fun t198 => (if t198 = true then (if t187 = true then ((devices_Check.f ([] : List (S40))).bind fun t199 => (if t199 = 0 then ((devices_Check.f (([(⟨0, 0, 0, 0, 0, 0⟩ : S40)] : List (S40)))).bind fun t203 => (some (t203 == 420))) else (none))) else (none)) else (none))) = some r := by rw [if_neg (show ¬ (false = true) by decide)] at H; exact H
                     clear H
                     have H := H1
                     clear H1
                     obtain ⟨y195, hy195⟩ : ∃ y_ : List (S47), y_ = (([(⟨0, 2, 0, false⟩ : S47)] : List (S47))) := ⟨_, rfl⟩
                     replace H : ((testamurref42_SameState.f kj27 t179 y195).bind fun t198 => (if t198 = true then (if t187 = true then ((devices_Check.f ([] : List (S40))).bind fun t199 => (if t199 = 0 then ((devices_Check.f (([(⟨0, 0, 0, 0, 0, 0⟩ : S40)] : List (S40)))).bind fun t203 => (some (t203 == 420))) else (none))) else (none)) else (none))) = some r := by first | (rw [hy195]; with_reducible exact H) | (have H2_ := (Option.bind_some _ _).symm.trans H; rw [hy195]; with_reducible exact H2_) | (have H2_ := (Option.bind_some _ _).symm.trans H; with_reducible exact H2_) | with_reducible exact H | (rw [hy195]; exact H) | exact H
                     have Ny195 := Aside0.mk hy195
                     clear hy195
                     replace H := Option.bind_eq_some_iff.mp H
                     obtain ⟨t198, A580, H⟩ := H
                     replace H : (if t198 = true then (if t187 = true then ((devices_Check.f ([] : List (S40))).bind fun t199 => (if t199 = 0 then ((devices_Check.f (([(⟨0, 0, 0, 0, 0, 0⟩ : S40)] : List (S40)))).bind fun t203 => (some (t203 == 420))) else (none))) else (none)) else (none)) = some r := H
                     have A58 := Aside0.mk A580
                     clear A580
                     by_cases c59 : t198 = true
                     ·subst c59
                      have H1 : (if t187 = true then ((devices_Check.f ([] : List (S40))).bind fun t199 => (if t199 = 0 then ((devices_Check.f (([(⟨0, 0, 0, 0, 0, 0⟩ : S40)] : List (S40)))).bind fun t203 => (some (t203 == 420))) else (none))) else (none)) = some r := by rw [if_pos rfl] at H; exact H
                      clear H
                      have H := H1
                      clear H1
                      by_cases c60 : t187 = true
                      ·subst c60
                       have H1 : ((devices_Check.f ([] : List (S40))).bind fun t199 => (if t199 = 0 then ((devices_Check.f (([(⟨0, 0, 0, 0, 0, 0⟩ : S40)] : List (S40)))).bind fun t203 => (some (t203 == 420))) else (none))) = some r := by rw [if_pos rfl] at H; exact H
                       clear H
                       have H := H1
                       clear H1
                       replace H := Option.bind_eq_some_iff.mp H
                       obtain ⟨t199, A610, H⟩ := H
                       replace H : (if t199 = 0 then ((devices_Check.f (([(⟨0, 0, 0, 0, 0, 0⟩ : S40)] : List (S40)))).bind fun t203 => (some (t203 == 420))) else (none)) = some r := H
                       have A61 := Aside0.mk A610
                       clear A610
                       by_cases c62 : t199 = 0
                       ·rw [if_pos c62] at H
                        have c62b0 : (t199 == 0) = true := beq_iff_eq.mpr c62
                        have c62b1 : (t199 != 0) = false := bne_eq_false_iff_eq.mpr c62
                        clear c62
                        obtain ⟨y200, hy200⟩ : ∃ y_ : List (S40), y_ = (([(⟨0, 0, 0, 0, 0, 0⟩ : S40)] : List (S40))) := ⟨_, rfl⟩
                        replace H : ((devices_Check.f y200).bind fun t203 => (some (t203 == 420))) = some r := by first | (rw [hy200]; with_reducible exact H) | (have H2_ := (Option.bind_some _ _).symm.trans H; rw [hy200]; with_reducible exact H2_) | (have H2_ := (Option.bind_some _ _).symm.trans H; with_reducible exact H2_) | with_reducible exact H | (rw [hy200]; exact H) | exact H
                        have Ny200 := Aside0.mk hy200
                        clear hy200
                        replace H := Option.bind_eq_some_iff.mp H
                        obtain ⟨t203, A630, H⟩ := H
                        replace H : (some (t203 == 420)) = some r := H
                        have A63 := Aside0.mk A630
                        clear A630
                        obtain rfl := Option.some.inj H
                        obtain ⟨Ao64, co64, eo64⟩ := Kd.R_slice HO_5.out
                        subst eo64
                        go_wp2_with ((with_reducible refine gate_callee (f := 28) rfl ?_); refine Aside0.out (p := _) ?_)
                        refine ⟨?_⟩
                        refine goesL_ (some 133) rfl rfl Try.func28 (by kernel_rfl) rfl #[.slice Ao64 t151.length co64, .slice Ao35 t141.length co35] rfl (by (try simp only [List.map_toArray, List.map_cons, List.map_nil]); first | done | rfl | (simp only [List.length_drop, List.length_take]; rfl)) ?_
                        (with_reducible refine (testamurref42_Same.calls kj27 _ _ t151 _ _ t141 true _ ?side1 ?side2 ?side3 ?side4 A48.out).mono ?_)
                        (case side1 => repeat (first | exact (Kd.R_reads' HO_5.out).2.2 | (with_reducible refine Kd.C_alloc ?_ _) | (with_reducible refine Kd.C_drewN ?_ _) | (with_reducible refine Kd.C_drew ?_)))
                        (case side2 => exact (Kd.R_reads' HO_5.out).2.1)
                        (case side3 => repeat (first | exact (Kd.R_reads' HO_3.out).2.2 | (with_reducible refine Kd.C_alloc ?_ _) | (with_reducible refine Kd.C_drewN ?_ _) | (with_reducible refine Kd.C_drew ?_)))
                        (case side4 => exact (Kd.R_reads' HO_3.out).2.1)
                        rintro e w' ⟨rfl, ⟨nd, rfl⟩⟩
                        refine ⟨_, rfl, ?_⟩
                        obtain ⟨Ao65, co65, eo65⟩ := Kd.R_slice HO_9.out
                        subst eo65
                        go_wp2_with (go_at_call 28; (with_reducible refine (testamurref42_Same.calls kj27 _ _ t165 _ _ t141 true _ ?side1 ?side2 ?side3 ?side4 A50.out).mono ?_); (case side1 => repeat (first | exact (Kd.R_reads' HO_9.out).2.2 | (with_reducible refine Kd.C_alloc ?_ _) | (with_reducible refine Kd.C_drewN ?_ _) | (with_reducible refine Kd.C_drew ?_))); (case side2 => exact (Kd.R_reads' HO_9.out).2.1); (case side3 => repeat (first | exact (Kd.R_reads' HO_3.out).2.2 | (with_reducible refine Kd.C_alloc ?_ _) | (with_reducible refine Kd.C_drewN ?_ _) | (with_reducible refine Kd.C_drew ?_))); (case side4 => exact (Kd.R_reads' HO_3.out).2.1); refine Aside0.out (p := _) ?_)
                        refine ⟨?_⟩
                        rintro e w' ⟨rfl, ⟨nd, rfl⟩⟩
                        go_wp2_with ((with_reducible refine gate_dst (N := 148) rfl ?_); (try (refine gate_guard (by rfl) ?_; dsimp only)); refine Aside0.out (p := _) ?_)
                        refine ⟨?_⟩
                        refine Kd.R_lit k47 _ 47 ?hg (N := 148) ?hd (xs := ([(⟨0, 1, 2, true⟩ : S47), (⟨1, 2, 0, false⟩ : S47)] : List (S47))) (inner := [.int .i64 0, .int .i64 1, .int .i64 2, .bool true, .int .i64 1, .int .i64 2, .int .i64 0, .bool false]) (ok := fun _ => True) (okp := fun _ => True) ?hr ?hp (fun _ hk => hk) trivial (Below.refl _ _) (Nat.le_refl _) (by simp) ?_; (case hd => rfl); (case hg => rfl); (case hr => first | (go_simp; done) | (go_simp; rfl)); (case hp => exact (Reps.c4 (show Kd.M k47 _ _ _ (⟨0, 1, 2, true⟩ : S47) [.int .i64 0, .int .i64 1, .int .i64 2, .bool true] from (k47_mkM _ _ _ (⟨0, 1, 2, true⟩ : S47) )) (Reps.c4 (show Kd.M k47 _ _ _ (⟨1, 2, 0, false⟩ : S47) [.int .i64 1, .int .i64 2, .int .i64 0, .bool false] from (k47_mkM _ _ _ (⟨1, 2, 0, false⟩ : S47) )) (Reps.none _ _))))
                        intro v192 w66 ho67 hb hg_ hnew_
                        clear hg_ hnew_
                        (first | rw [← Ny191.out] at ho67 | (simp only [Int.reduceToNat] at ho67; rw [← Ny191.out] at ho67))
                        have n0_ := Aside0.mk (Kd.R_below (by (with_reducible repeat (first | apply Kd.R_alloc | apply Kd.R_drewN | apply Kd.R_drew)); exact HO_3.out) hb)
                        have n1_ := Aside0.mk (Kd.R_below (by (with_reducible repeat (first | apply Kd.R_alloc | apply Kd.R_drewN | apply Kd.R_drew)); exact HO_5.out) hb)
                        have n2_ := Aside0.mk (Kd.R_below (by (with_reducible repeat (first | apply Kd.R_alloc | apply Kd.R_drewN | apply Kd.R_drew)); exact HO_9.out) hb)
                        have n3_ := Aside0.mk (Kd.R_elder' (by (with_reducible repeat (first | apply Kd.R_alloc | apply Kd.R_drewN | apply Kd.R_drew)); exact HO_11.out) (Kd.R_base ho67) hb)
                        have n4_ := Aside0.mk (Kd.R_elder' (by (with_reducible repeat (first | apply Kd.R_alloc | apply Kd.R_drewN | apply Kd.R_drew)); exact HO_19.out) (Kd.R_base ho67) hb)
                        have n5_ := Aside0.mk (Kd.R_lower (Kd.R_new' (Kd.R_new' ho67 (Kd.R_lt (by (with_reducible repeat (first | apply Kd.R_alloc | apply Kd.R_drewN | apply Kd.R_drew)); exact HO_11.out))) (Kd.R_lt (by (with_reducible repeat (first | apply Kd.R_alloc | apply Kd.R_drewN | apply Kd.R_drew)); exact HO_19.out))) (below_size (by repeat (first | (with_reducible first | exact HB.out | apply below_alloc | apply pw_below_drewN | apply below_drew1) | exact HB.out))))
                        have n6_ := Aside0.mk (below_step (by repeat (first | (with_reducible first | exact HB.out | apply below_alloc | apply pw_below_drewN | apply below_drew1) | exact HB.out)) hb)
                        clear HO_3
                        clear HO_5
                        clear HO_9
                        clear HO_11
                        clear HO_19
                        clear HB
                        have HO_3 := n0_
                        have HO_5 := n1_
                        have HO_9 := n2_
                        have HO_11 := n3_
                        have HO_19 := n4_
                        have HO193 := n5_
                        have HB := n6_
                        clear n0_ n1_ n2_ n3_ n4_ n5_ n6_
                        clear hb ho67
                        obtain ⟨Ao68, co68, eo68⟩ := Kd.R_slice HO_11.out
                        subst eo68
                        obtain ⟨Ao69, co69, eo69⟩ := Kd.R_slice HO193.out
                        subst eo69
                        go_wp2_with (go_at_call 36; (with_reducible refine (testamurref42_SameState.calls kj27 _ _ t169 _ _ y191 true _ ?side1 ?side2 ?side3 ?side4 A53.out).mono ?_); (case side1 => repeat (first | exact (Kd.R_reads' HO_11.out).2.2 | (with_reducible refine Kd.C_alloc ?_ _) | (with_reducible refine Kd.C_drewN ?_ _) | (with_reducible refine Kd.C_drew ?_))); (case side2 => exact (Kd.R_reads' HO_11.out).2.1); (case side3 => repeat (first | exact (Kd.R_reads' HO193.out).2.2 | (with_reducible refine Kd.C_alloc ?_ _) | (with_reducible refine Kd.C_drewN ?_ _) | (with_reducible refine Kd.C_drew ?_))); (case side4 => exact (Kd.R_reads' HO193.out).2.1); refine Aside0.out (p := _) ?_)
                        refine ⟨?_⟩
                        rintro e w' ⟨rfl, ⟨nd, rfl⟩⟩
                        go_wp2_with ((with_reducible refine gate_dst (N := 165) rfl ?_); (try (refine gate_guard (by rfl) ?_; dsimp only)); refine Aside0.out (p := _) ?_)
                        refine ⟨?_⟩
                        refine Kd.R_lit k47 _ 47 ?hg (N := 165) ?hd (xs := ([(⟨0, 2, 0, false⟩ : S47)] : List (S47))) (inner := [.int .i64 0, .int .i64 2, .int .i64 0, .bool false]) (ok := fun _ => True) (okp := fun _ => True) ?hr ?hp (fun _ hk => hk) trivial (Below.refl _ _) (Nat.le_refl _) (by simp) ?_; (case hd => rfl); (case hg => rfl); (case hr => first | (go_simp; done) | (go_simp; rfl)); (case hp => exact (Reps.c4 (show Kd.M k47 _ _ _ (⟨0, 2, 0, false⟩ : S47) [.int .i64 0, .int .i64 2, .int .i64 0, .bool false] from (k47_mkM _ _ _ (⟨0, 2, 0, false⟩ : S47) )) (Reps.none _ _)))
                        intro v196 w70 ho71 hb hg_ hnew_
                        clear hg_ hnew_
                        (first | rw [← Ny195.out] at ho71 | (simp only [Int.reduceToNat] at ho71; rw [← Ny195.out] at ho71))
                        have n0_ := Aside0.mk (Kd.R_below (by (with_reducible repeat (first | apply Kd.R_alloc | apply Kd.R_drewN | apply Kd.R_drew)); exact HO_3.out) hb)
                        have n1_ := Aside0.mk (Kd.R_below (by (with_reducible repeat (first | apply Kd.R_alloc | apply Kd.R_drewN | apply Kd.R_drew)); exact HO_5.out) hb)
                        have n2_ := Aside0.mk (Kd.R_below (by (with_reducible repeat (first | apply Kd.R_alloc | apply Kd.R_drewN | apply Kd.R_drew)); exact HO_9.out) hb)
                        have n3_ := Aside0.mk (Kd.R_elder' (by (with_reducible repeat (first | apply Kd.R_alloc | apply Kd.R_drewN | apply Kd.R_drew)); exact HO_11.out) (Kd.R_base ho71) hb)
                        have n4_ := Aside0.mk (Kd.R_elder' (by (with_reducible repeat (first | apply Kd.R_alloc | apply Kd.R_drewN | apply Kd.R_drew)); exact HO_19.out) (Kd.R_base ho71) hb)
                        have n5_ := Aside0.mk (Kd.R_elder' (by (with_reducible repeat (first | apply Kd.R_alloc | apply Kd.R_drewN | apply Kd.R_drew)); exact HO193.out) (Kd.R_base ho71) hb)
                        have n6_ := Aside0.mk (Kd.R_lower (Kd.R_new' (Kd.R_new' (Kd.R_new' ho71 (Kd.R_lt (by (with_reducible repeat (first | apply Kd.R_alloc | apply Kd.R_drewN | apply Kd.R_drew)); exact HO_11.out))) (Kd.R_lt (by (with_reducible repeat (first | apply Kd.R_alloc | apply Kd.R_drewN | apply Kd.R_drew)); exact HO_19.out))) (Kd.R_lt (by (with_reducible repeat (first | apply Kd.R_alloc | apply Kd.R_drewN | apply Kd.R_drew)); exact HO193.out))) (below_size (by repeat (first | (with_reducible first | exact HB.out | apply below_alloc | apply pw_below_drewN | apply below_drew1) | exact HB.out))))
                        have n7_ := Aside0.mk (below_step (by repeat (first | (with_reducible first | exact HB.out | apply below_alloc | apply pw_below_drewN | apply below_drew1) | exact HB.out)) hb)
                        clear HO_3
                        clear HO_5
                        clear HO_9
                        clear HO_11
                        clear HO_19
                        clear HO193
                        clear HB
                        have HO_3 := n0_
                        have HO_5 := n1_
                        have HO_9 := n2_
                        have HO_11 := n3_
                        have HO_19 := n4_
                        have HO193 := n5_
                        have HO197 := n6_
                        have HB := n7_
                        clear n0_ n1_ n2_ n3_ n4_ n5_ n6_ n7_
                        clear hb ho71
                        obtain ⟨Ao72, co72, eo72⟩ := Kd.R_slice HO_19.out
                        subst eo72
                        obtain ⟨Ao73, co73, eo73⟩ := Kd.R_slice HO197.out
                        subst eo73
                        go_wp2_with (go_at_call 36; (with_reducible refine (testamurref42_SameState.calls kj27 _ _ t179 _ _ y195 true _ ?side1 ?side2 ?side3 ?side4 A58.out).mono ?_); (case side1 => repeat (first | exact (Kd.R_reads' HO_19.out).2.2 | (with_reducible refine Kd.C_alloc ?_ _) | (with_reducible refine Kd.C_drewN ?_ _) | (with_reducible refine Kd.C_drew ?_))); (case side2 => exact (Kd.R_reads' HO_19.out).2.1); (case side3 => repeat (first | exact (Kd.R_reads' HO197.out).2.2 | (with_reducible refine Kd.C_alloc ?_ _) | (with_reducible refine Kd.C_drewN ?_ _) | (with_reducible refine Kd.C_drew ?_))); (case side4 => exact (Kd.R_reads' HO197.out).2.1); refine Aside0.out (p := _) ?_)
                        refine ⟨?_⟩
                        rintro e w' ⟨rfl, ⟨nd, rfl⟩⟩
                        go_wp2_with (go_at_call 29; (refine (devices_Check.calls _ _ ([] : List (S40)) t199 _ ?side1 ?side2 A61.out).mono ?_); (case side1 => exact Kd.C_nil _ _); (case side2 => exact Nat.le_refl _); refine Aside0.out (p := _) ?_)
                        refine ⟨?_⟩
                        rintro e w74 ⟨rfl, hb⟩
                        have n0_ := Aside0.mk (Kd.R_below (by (with_reducible repeat (first | apply Kd.R_alloc | apply Kd.R_drewN | apply Kd.R_drew)); exact HO_3.out) hb)
                        have n1_ := Aside0.mk (Kd.R_below (by (with_reducible repeat (first | apply Kd.R_alloc | apply Kd.R_drewN | apply Kd.R_drew)); exact HO_5.out) hb)
                        have n2_ := Aside0.mk (Kd.R_below (by (with_reducible repeat (first | apply Kd.R_alloc | apply Kd.R_drewN | apply Kd.R_drew)); exact HO_9.out) hb)
                        have n3_ := Aside0.mk (Kd.R_below (by (with_reducible repeat (first | apply Kd.R_alloc | apply Kd.R_drewN | apply Kd.R_drew)); exact HO_11.out) hb)
                        have n4_ := Aside0.mk (Kd.R_below (by (with_reducible repeat (first | apply Kd.R_alloc | apply Kd.R_drewN | apply Kd.R_drew)); exact HO_19.out) hb)
                        have n5_ := Aside0.mk (Kd.R_below (by (with_reducible repeat (first | apply Kd.R_alloc | apply Kd.R_drewN | apply Kd.R_drew)); exact HO193.out) hb)
                        have n6_ := Aside0.mk (Kd.R_below (by (with_reducible repeat (first | apply Kd.R_alloc | apply Kd.R_drewN | apply Kd.R_drew)); exact HO197.out) hb)
                        have n7_ := Aside0.mk (below_step (by repeat (first | (with_reducible first | exact HB.out | apply below_alloc | apply pw_below_drewN | apply below_drew1) | exact HB.out)) hb)
                        clear HO_3
                        clear HO_5
                        clear HO_9
                        clear HO_11
                        clear HO_19
                        clear HO193
                        clear HO197
                        clear HB
                        have HO_3 := n0_
                        have HO_5 := n1_
                        have HO_9 := n2_
                        have HO_11 := n3_
                        have HO_19 := n4_
                        have HO193 := n5_
                        have HO197 := n6_
                        have HB := n7_
                        clear n0_ n1_ n2_ n3_ n4_ n5_ n6_ n7_
                        (try clear hb)
                        (try clear hb2)
                        (try clear hk)
                        (try clear hi)
                        go_wp2_with ((with_reducible refine gate_dst (N := 177) rfl ?_); (try (refine gate_guard (by rfl) ?_; dsimp only)); refine Aside0.out (p := _) ?_)
                        refine ⟨?_⟩
                        refine Kd.R_lit k40 _ 40 ?hg (N := 177) ?hd (xs := ([(⟨0, 0, 0, 0, 0, 0⟩ : S40)] : List (S40))) (inner := [.int .i64 0, .int .i64 0, .int .i64 0, .int .i64 0, .int .i64 0, .int .i64 0]) (ok := fun _ => True) (okp := fun _ => True) ?hr ?hp (fun _ hk => hk) trivial (Below.refl _ _) (Nat.le_refl _) (by simp) ?_; (case hd => rfl); (case hg => rfl); (case hr => first | (go_simp; done) | (go_simp; rfl)); (case hp => exact (Reps.c6 (show Kd.M k40 _ _ _ (⟨0, 0, 0, 0, 0, 0⟩ : S40) [.int .i64 0, .int .i64 0, .int .i64 0, .int .i64 0, .int .i64 0, .int .i64 0] from (k40_mkM _ _ _ (⟨0, 0, 0, 0, 0, 0⟩ : S40) )) (Reps.none _ _)))
                        intro v201 w75 ho76 hb hg_ hnew_
                        clear hg_ hnew_
                        (first | rw [← Ny200.out] at ho76 | (simp only [Int.reduceToNat] at ho76; rw [← Ny200.out] at ho76))
                        have n0_ := Aside0.mk (Kd.R_elder' (by (with_reducible repeat (first | apply Kd.R_alloc | apply Kd.R_drewN | apply Kd.R_drew)); exact HO_3.out) (Kd.R_base ho76) hb)
                        have n1_ := Aside0.mk (Kd.R_elder' (by (with_reducible repeat (first | apply Kd.R_alloc | apply Kd.R_drewN | apply Kd.R_drew)); exact HO_5.out) (Kd.R_base ho76) hb)
                        have n2_ := Aside0.mk (Kd.R_elder' (by (with_reducible repeat (first | apply Kd.R_alloc | apply Kd.R_drewN | apply Kd.R_drew)); exact HO_9.out) (Kd.R_base ho76) hb)
                        have n3_ := Aside0.mk (Kd.R_below (by (with_reducible repeat (first | apply Kd.R_alloc | apply Kd.R_drewN | apply Kd.R_drew)); exact HO_11.out) hb)
                        have n4_ := Aside0.mk (Kd.R_below (by (with_reducible repeat (first | apply Kd.R_alloc | apply Kd.R_drewN | apply Kd.R_drew)); exact HO_19.out) hb)
                        have n5_ := Aside0.mk (Kd.R_below (by (with_reducible repeat (first | apply Kd.R_alloc | apply Kd.R_drewN | apply Kd.R_drew)); exact HO193.out) hb)
                        have n6_ := Aside0.mk (Kd.R_below (by (with_reducible repeat (first | apply Kd.R_alloc | apply Kd.R_drewN | apply Kd.R_drew)); exact HO197.out) hb)
                        have n7_ := Aside0.mk (Kd.R_lower (Kd.R_new' (Kd.R_new' (Kd.R_new' ho76 (Kd.R_lt (by (with_reducible repeat (first | apply Kd.R_alloc | apply Kd.R_drewN | apply Kd.R_drew)); exact HO_3.out))) (Kd.R_lt (by (with_reducible repeat (first | apply Kd.R_alloc | apply Kd.R_drewN | apply Kd.R_drew)); exact HO_5.out))) (Kd.R_lt (by (with_reducible repeat (first | apply Kd.R_alloc | apply Kd.R_drewN | apply Kd.R_drew)); exact HO_9.out))) (below_size (by repeat (first | (with_reducible first | exact HB.out | apply below_alloc | apply pw_below_drewN | apply below_drew1) | exact HB.out))))
                        have n8_ := Aside0.mk (below_step (by repeat (first | (with_reducible first | exact HB.out | apply below_alloc | apply pw_below_drewN | apply below_drew1) | exact HB.out)) hb)
                        clear HO_3
                        clear HO_5
                        clear HO_9
                        clear HO_11
                        clear HO_19
                        clear HO193
                        clear HO197
                        clear HB
                        have HO_3 := n0_
                        have HO_5 := n1_
                        have HO_9 := n2_
                        have HO_11 := n3_
                        have HO_19 := n4_
                        have HO193 := n5_
                        have HO197 := n6_
                        have HO202 := n7_
                        have HB := n8_
                        clear n0_ n1_ n2_ n3_ n4_ n5_ n6_ n7_ n8_
                        clear hb ho76
                        obtain ⟨Ao77, co77, eo77⟩ := Kd.R_slice HO202.out
                        subst eo77
                        go_wp2_with (go_at_call 29; (with_reducible refine (devices_Check.calls _ _ y200 t203 _ ?side1 ?side2 A63.out).mono ?_); (case side1 => repeat (first | exact (Kd.R_reads' HO202.out).2.2 | (with_reducible refine Kd.C_alloc ?_ _) | (with_reducible refine Kd.C_drewN ?_ _) | (with_reducible refine Kd.C_drew ?_))); (case side2 => exact (Kd.R_reads' HO202.out).2.1); refine Aside0.out (p := _) ?_)
                        refine ⟨?_⟩
                        rintro e w78 ⟨rfl, hb⟩
                        have n0_ := Aside0.mk (Kd.R_below (by (with_reducible repeat (first | apply Kd.R_alloc | apply Kd.R_drewN | apply Kd.R_drew)); exact HO_3.out) hb)
                        have n1_ := Aside0.mk (Kd.R_below (by (with_reducible repeat (first | apply Kd.R_alloc | apply Kd.R_drewN | apply Kd.R_drew)); exact HO_5.out) hb)
                        have n2_ := Aside0.mk (Kd.R_below (by (with_reducible repeat (first | apply Kd.R_alloc | apply Kd.R_drewN | apply Kd.R_drew)); exact HO_9.out) hb)
                        have n3_ := Aside0.mk (Kd.R_below (by (with_reducible repeat (first | apply Kd.R_alloc | apply Kd.R_drewN | apply Kd.R_drew)); exact HO_11.out) hb)
                        have n4_ := Aside0.mk (Kd.R_below (by (with_reducible repeat (first | apply Kd.R_alloc | apply Kd.R_drewN | apply Kd.R_drew)); exact HO_19.out) hb)
                        have n5_ := Aside0.mk (Kd.R_below (by (with_reducible repeat (first | apply Kd.R_alloc | apply Kd.R_drewN | apply Kd.R_drew)); exact HO193.out) hb)
                        have n6_ := Aside0.mk (Kd.R_below (by (with_reducible repeat (first | apply Kd.R_alloc | apply Kd.R_drewN | apply Kd.R_drew)); exact HO197.out) hb)
                        have n7_ := Aside0.mk (Kd.R_below (by (with_reducible repeat (first | apply Kd.R_alloc | apply Kd.R_drewN | apply Kd.R_drew)); exact HO202.out) hb)
                        have n8_ := Aside0.mk (below_step (by repeat (first | (with_reducible first | exact HB.out | apply below_alloc | apply pw_below_drewN | apply below_drew1) | exact HB.out)) hb)
                        clear HO_3
                        clear HO_5
                        clear HO_9
                        clear HO_11
                        clear HO_19
                        clear HO193
                        clear HO197
                        clear HO202
                        clear HB
                        have HO_3 := n0_
                        have HO_5 := n1_
                        have HO_9 := n2_
                        have HO_11 := n3_
                        have HO_19 := n4_
                        have HO193 := n5_
                        have HO197 := n6_
                        have HO202 := n7_
                        have HB := n8_
                        clear n0_ n1_ n2_ n3_ n4_ n5_ n6_ n7_ n8_
                        (try clear hb)
                        (try clear hb2)
                        (try clear hk)
                        (try clear hi)
                        go_wp2
                        go_ret
                        exact ⟨by first | rfl | (simp [errW_none, errW_some] <;> rfl) | (simp [*, errW_none, errW_some] <;> rfl), by repeat (first | (with_reducible first | exact HB.out | apply below_alloc | apply pw_below_drewN | apply below_drew1) | exact HB.out)⟩
                       ·rw [if_neg c62] at H
                        exact absurd H (by simp)
                      ·replace c60 := Bool.eq_false_iff.mpr c60
                       subst c60
                       have H1 : (none) = some r := by rw [if_neg (show ¬ (false = true) by decide)] at H; exact H
                       clear H
                       have H := H1
                       clear H1
                       exact absurd H (by simp)
                     ·replace c59 := Bool.eq_false_iff.mpr c59
                      subst c59
                      have H1 : (none) = some r := by rw [if_neg (show ¬ (false = true) by decide)] at H; exact H
                      clear H
                      have H := H1
                      clear H1
                      exact absurd H (by simp)
                  ·replace c55 := Bool.eq_false_iff.mpr c55
                   subst c55
                   have H1 : (none) = some r := by rw [if_neg (show ¬ (false = true) by decide)] at H; exact H
                   clear H
                   have H := H1
                   clear H1
                   exact absurd H (by simp)
                 ·replace c54 := Bool.eq_false_iff.mpr c54
                  subst c54
                  have H1 : (none) = some r := by rw [if_neg (show ¬ (false = true) by decide)] at H; exact H
                  clear H
                  have H := H1
                  clear H1
                  exact absurd H (by simp)
                ·rw [if_neg c52] at H
                 exact absurd H (by simp)
               ·replace c51 := Bool.eq_false_iff.mpr c51
                subst c51
                have H1 : (none) = some r := by rw [if_neg (show ¬ (false = true) by decide)] at H; exact H
                clear H
                have H := H1
                clear H1
                exact absurd H (by simp)
              ·replace c49 := Bool.eq_false_iff.mpr c49
               subst c49
               have H1 : (none) = some r := by rw [if_neg (show ¬ (false = true) by decide)] at H; exact H
               clear H
               have H := H1
               clear H1
               exact absurd H (by simp)
           ·rw [if_neg c27] at H
            exact absurd H (by simp)
          ·rw [if_neg c26] at H
           exact absurd H (by simp)
         ·rw [if_neg c25] at H
          exact absurd H (by simp)
        ·rw [if_neg c24] at H
         exact absurd H (by simp)
       ·rw [if_neg c23] at H
        exact absurd H (by simp)
      ·rw [if_neg c22] at H
       exact absurd H (by simp)
     ·rw [if_neg c21] at H
      exact absurd H (by simp)
    ·rw [if_neg c20] at H
     exact absurd H (by simp)
   ·rw [if_neg c19] at H
    exact absurd H (by simp)
  ·rw [if_neg c18] at H
   exact absurd H (by simp)
 ·rw [if_neg c17] at H
  exact absurd H (by simp)

end Go.Proofs.Ytkclehmjkncmnaa.P
