-- printed by gprint.py (a program of this seat over the kit's print.py): Lean checks it
import Derived.Test.YtkclehmjkncmnaaP0
import Derived.Test.YtkclehmjkncmnaaPA
import Derived.Test.YtkclehmjkncmnaaP11
import Derived.Test.YtkclehmjkncmnaaP13
import Derived.Test.YtkclehmjkncmnaaP33
import Derived.Test.YtkclehmjkncmnaaGD
import Derived.Test.YtkclehmjkncmnaaH
namespace Go.Proofs.Ytkclehmjkncmnaa.P
open Go.RowKit Go.Proofs.YtkclehmjkncmnaaW.PrintWords Go.Proofs.YtkclehmjkncmnaaW.PrintLast Go.Proofs.YtkclehmjkncmnaaW.PrintMore
attribute [local go_sem] max2_int min2_int max_two min_two max_three min_three max_four min_four   -- for this text's walks alone
set_option linter.unusedVariables false
set_option linter.unusedSimpArgs false

attribute [local go_sem high] eqA47
/-! ### testamurlaw42_DevicesStale: function 10 -/
mutual
def testamurlaw42_DevicesStale.j0 : Nat → List (S40) → List (S40) → Int → Int → Option (Bool)
 | 0, _, _, _, _ => none
 | k + 1, x0, x1, x2, x3 => (testamurref42_Few.f x0).bind fun t485 => (if t485 = true then ((testamurref42_Few.f x1).bind fun t486 => (if t486 = true then (testamurlaw42_DevicesStale.j1 k x0 x1 x2 x3 (decide (x2 > 50))) else (testamurlaw42_DevicesStale.j1 k x0 x1 x2 x3 true))) else (testamurlaw42_DevicesStale.j1 k x0 x1 x2 x3 true))
def testamurlaw42_DevicesStale.j1 : Nat → List (S40) → List (S40) → Int → Int → Bool → Option (Bool)
 | 0, _, _, _, _, _ => none
 | k + 1, x0, x1, x2, x3, x32 => if x32 = true then (some true) else (testamurlaw42_DevicesStale.j2 k x0 x1 x2 x3)
def testamurlaw42_DevicesStale.j2 : Nat → List (S40) → List (S40) → Int → Int → Option (Bool)
 | 0, _, _, _, _ => none
 | k + 1, x0, x1, x2, x3 => (devices_Merge.f x0 x1).bind fun bt487 => ((devices_State.f x0 x2 x3).bind fun bt491 => ((devices_State.f bt487.1 x2 x3).bind fun bt495 => (if bt487.2 = 0 then (if bt491.2 = 0 then (testamurlaw42_DevicesStale.j3 k x0 x1 x3 bt491.1 bt495.1 (bt495.2 != 0)) else (testamurlaw42_DevicesStale.j3 k x0 x1 x3 bt491.1 bt495.1 true)) else (testamurlaw42_DevicesStale.j3 k x0 x1 x3 bt491.1 bt495.1 true))))
def testamurlaw42_DevicesStale.j3 : Nat → List (S40) → List (S40) → Int → List (S47) → List (S47) → Bool → Option (Bool)
 | 0, _, _, _, _, _, _ => none
 | k + 1, x0, x1, x3, x11, x13, x62 => if x62 = true then (some true) else (testamurlaw42_DevicesStale.j4 k x0 x1 x3 x11 x13)
def testamurlaw42_DevicesStale.j4 : Nat → List (S40) → List (S40) → Int → List (S47) → List (S47) → Option (Bool)
 | 0, _, _, _, _, _ => none
 | k + 1, x0, x1, x3, x11, x13 => testamurlaw42_DevicesStale.l0 k x0 x1 x3 x11 x13 (x11.length : Int) 0
def testamurlaw42_DevicesStale.l0 : Nat → List (S40) → List (S40) → Int → List (S47) → List (S47) → Int → Int → Option (Bool)
 | 0, _, _, _, _, _, _, _ => none
 | k + 1, x0, x1, x3, x11, x13, x64, x65 => if x65 < x64 then (testamurlaw42_DevicesStale.j6 k x0 x1 x3 x11 x13 x64 x65) else (some true)
def testamurlaw42_DevicesStale.j6 : Nat → List (S40) → List (S40) → Int → List (S47) → List (S47) → Int → Int → Option (Bool)
 | 0, _, _, _, _, _, _, _ => none
 | k + 1, x0, x1, x3, x11, x13, x64, x65 => testamurlaw42_DevicesStale.l1 k x0 x1 x3 x11 x13 x65 false x64 x65 x1 (x1.length : Int) 0
def testamurlaw42_DevicesStale.l1 : Nat → List (S40) → List (S40) → Int → List (S47) → List (S47) → Int → Bool → Int → Int → List (S40) → Int → Int → Option (Bool)
 | 0, _, _, _, _, _, _, _, _, _, _, _, _ => none
 | k + 1, x0, x1, x3, x11, x13, x15, x16, x64, x65, x68, x69, x70 => if x70 < x69 then (testamurlaw42_DevicesStale.j8 k x0 x1 x3 x11 x13 x15 x16 x64 x65 x68 x69 x70) else (if x16 = true then (testamurlaw42_DevicesStale.l0 k x0 x1 x3 x11 x13 x64 (wrap64 (x65 + 1))) else (if 0 ≤ x15 then (if x15 < (x13.length : Int) then (if x15 < (x11.length : Int) then (if (!(((rd_T47 x13 x15).f0) == ((rd_T47 x11 x15).f0)) || (!(((rd_T47 x13 x15).f1) == ((rd_T47 x11 x15).f1)) || (!(((rd_T47 x13 x15).f2) == ((rd_T47 x11 x15).f2)) || (!(((rd_T47 x13 x15).f3) == ((rd_T47 x11 x15).f3)))))) = true then (some false) else (testamurlaw42_DevicesStale.l0 k x0 x1 x3 x11 x13 x64 (wrap64 (x65 + 1)))) else (none)) else (none)) else (none)))
def testamurlaw42_DevicesStale.j8 : Nat → List (S40) → List (S40) → Int → List (S47) → List (S47) → Int → Bool → Int → Int → List (S40) → Int → Int → Option (Bool)
 | 0, _, _, _, _, _, _, _, _, _, _, _, _ => none
 | k + 1, x0, x1, x3, x11, x13, x15, x16, x64, x65, x68, x69, x70 => if 0 ≤ x70 then (if x70 < (x68.length : Int) then (if ((rd_T40 x68 x70).f3) = x15 then ((testamurref42_Has.f k x0 ((rd_T40 x68 x70).f0) ((rd_T40 x68 x70).f1) ((rd_T40 x68 x70).f2) ((rd_T40 x68 x70).f3) ((rd_T40 x68 x70).f4) ((rd_T40 x68 x70).f5)).bind fun t508 => (if t508 = true then (testamurlaw42_DevicesStale.l1 k x0 x1 x3 x11 x13 x15 x16 x64 x65 x68 x69 (wrap64 (x70 + 1))) else (if 0 ≤ x15 then (if x15 < (x11.length : Int) then (if ((rd_T40 x68 x70).f0) = ((rd_T47 x11 x15).f1) then (testamurlaw42_DevicesStale.l1 k x0 x1 x3 x11 x13 x15 true x64 x65 x68 x69 (wrap64 (x70 + 1))) else ((testamurlaw42_had.f k x0 x15 x3 ((rd_T40 x68 x70).f0)).bind fun t512 => (if t512 = true then (testamurlaw42_DevicesStale.l1 k x0 x1 x3 x11 x13 x15 true x64 x65 x68 x69 (wrap64 (x70 + 1))) else (testamurlaw42_DevicesStale.l1 k x0 x1 x3 x11 x13 x15 x16 x64 x65 x68 x69 (wrap64 (x70 + 1)))))) else (none)) else (none)))) else (testamurlaw42_DevicesStale.l1 k x0 x1 x3 x11 x13 x15 x16 x64 x65 x68 x69 (wrap64 (x70 + 1)))) else (none)) else (none)
end
def testamurlaw42_DevicesStale.f (k : Nat) (l0 : List (S40)) (l1 : List (S40)) (a2 : Int) (a3 : Int) : Option (Bool) := (testamurlaw42_sane.f k).bind fun t484 => (if t484 = true then (testamurlaw42_DevicesStale.j0 k l0 l1 a2 a3) else (none))
theorem testamurlaw42_DevicesStale.mono_l : ∀ k, (∀ y0 y1 y2 y3, LeO (testamurlaw42_DevicesStale.j0 k y0 y1 y2 y3) (testamurlaw42_DevicesStale.j0 (k + 1) y0 y1 y2 y3)) ∧ (∀ y0 y1 y2 y3 y4, LeO (testamurlaw42_DevicesStale.j1 k y0 y1 y2 y3 y4) (testamurlaw42_DevicesStale.j1 (k + 1) y0 y1 y2 y3 y4)) ∧ (∀ y0 y1 y2 y3, LeO (testamurlaw42_DevicesStale.j2 k y0 y1 y2 y3) (testamurlaw42_DevicesStale.j2 (k + 1) y0 y1 y2 y3)) ∧ (∀ y0 y1 y2 y3 y4 y5, LeO (testamurlaw42_DevicesStale.j3 k y0 y1 y2 y3 y4 y5) (testamurlaw42_DevicesStale.j3 (k + 1) y0 y1 y2 y3 y4 y5)) ∧ (∀ y0 y1 y2 y3 y4, LeO (testamurlaw42_DevicesStale.j4 k y0 y1 y2 y3 y4) (testamurlaw42_DevicesStale.j4 (k + 1) y0 y1 y2 y3 y4)) ∧ (∀ y0 y1 y2 y3 y4 y5 y6, LeO (testamurlaw42_DevicesStale.l0 k y0 y1 y2 y3 y4 y5 y6) (testamurlaw42_DevicesStale.l0 (k + 1) y0 y1 y2 y3 y4 y5 y6)) ∧ (∀ y0 y1 y2 y3 y4 y5 y6, LeO (testamurlaw42_DevicesStale.j6 k y0 y1 y2 y3 y4 y5 y6) (testamurlaw42_DevicesStale.j6 (k + 1) y0 y1 y2 y3 y4 y5 y6)) ∧ (∀ y0 y1 y2 y3 y4 y5 y6 y7 y8 y9 y10 y11, LeO (testamurlaw42_DevicesStale.l1 k y0 y1 y2 y3 y4 y5 y6 y7 y8 y9 y10 y11) (testamurlaw42_DevicesStale.l1 (k + 1) y0 y1 y2 y3 y4 y5 y6 y7 y8 y9 y10 y11)) ∧ (∀ y0 y1 y2 y3 y4 y5 y6 y7 y8 y9 y10 y11, LeO (testamurlaw42_DevicesStale.j8 k y0 y1 y2 y3 y4 y5 y6 y7 y8 y9 y10 y11) (testamurlaw42_DevicesStale.j8 (k + 1) y0 y1 y2 y3 y4 y5 y6 y7 y8 y9 y10 y11))
 | 0 => ⟨fun _ _ _ _ r h => by simp [testamurlaw42_DevicesStale.j0] at h, fun _ _ _ _ _ r h => by simp [testamurlaw42_DevicesStale.j1] at h, fun _ _ _ _ r h => by simp [testamurlaw42_DevicesStale.j2] at h, fun _ _ _ _ _ _ r h => by simp [testamurlaw42_DevicesStale.j3] at h, fun _ _ _ _ _ r h => by simp [testamurlaw42_DevicesStale.j4] at h, fun _ _ _ _ _ _ _ r h => by simp [testamurlaw42_DevicesStale.l0] at h, fun _ _ _ _ _ _ _ r h => by simp [testamurlaw42_DevicesStale.j6] at h, fun _ _ _ _ _ _ _ _ _ _ _ _ r h => by simp [testamurlaw42_DevicesStale.l1] at h, fun _ _ _ _ _ _ _ _ _ _ _ _ r h => by simp [testamurlaw42_DevicesStale.j8] at h⟩
 | k + 1 => by
  obtain ⟨ih0, ih1, ih2, ih3, ih4, ih5, ih6, ih7, ih8⟩ := testamurlaw42_DevicesStale.mono_l k
  refine ⟨?_, ?_, ?_, ?_, ?_, ?_, ?_, ?_, ?_⟩
  ·intro y0 y1 y2 y3
   unfold testamurlaw42_DevicesStale.j0
   repeat' first
   | (with_reducible exact ih0 _ _ _ _)
   | (with_reducible exact ih1 _ _ _ _ _)
   | (with_reducible exact ih2 _ _ _ _)
   | (with_reducible exact ih3 _ _ _ _ _ _)
   | (with_reducible exact ih4 _ _ _ _ _)
   | (with_reducible exact ih5 _ _ _ _ _ _ _)
   | (with_reducible exact ih6 _ _ _ _ _ _ _)
   | (with_reducible exact ih7 _ _ _ _ _ _ _ _ _ _ _ _)
   | (with_reducible exact ih8 _ _ _ _ _ _ _ _ _ _ _ _)
   | (with_reducible exact testamurlaw42_had.mono _ _ _ _ _)
   | (with_reducible exact testamurlaw42_sane.mono _)
   | (with_reducible exact testamurref42_Has.mono _ _ _ _ _ _ _ _)
   | (with_reducible exact LeO.refl _)
   | (with_reducible exact LeO.none _)
   | (with_reducible refine LeO.ite ?_ ?_)
   | (with_reducible refine LeO.bind ?_ (fun _ => ?_))
   | exact ih0 _ _ _ _
   | exact ih1 _ _ _ _ _
   | exact ih2 _ _ _ _
   | exact ih3 _ _ _ _ _ _
   | exact ih4 _ _ _ _ _
   | exact ih5 _ _ _ _ _ _ _
   | exact ih6 _ _ _ _ _ _ _
   | exact ih7 _ _ _ _ _ _ _ _ _ _ _ _
   | exact ih8 _ _ _ _ _ _ _ _ _ _ _ _
   | exact testamurlaw42_had.mono _ _ _ _ _
   | exact testamurlaw42_sane.mono _
   | exact testamurref42_Has.mono _ _ _ _ _ _ _ _
   | exact LeO.none _
   | refine LeO.ite ?_ ?_
   | refine LeO.bind ?_ (fun _ => ?_)
  ·intro y0 y1 y2 y3 y4
   unfold testamurlaw42_DevicesStale.j1
   repeat' first
   | (with_reducible exact ih0 _ _ _ _)
   | (with_reducible exact ih1 _ _ _ _ _)
   | (with_reducible exact ih2 _ _ _ _)
   | (with_reducible exact ih3 _ _ _ _ _ _)
   | (with_reducible exact ih4 _ _ _ _ _)
   | (with_reducible exact ih5 _ _ _ _ _ _ _)
   | (with_reducible exact ih6 _ _ _ _ _ _ _)
   | (with_reducible exact ih7 _ _ _ _ _ _ _ _ _ _ _ _)
   | (with_reducible exact ih8 _ _ _ _ _ _ _ _ _ _ _ _)
   | (with_reducible exact testamurlaw42_had.mono _ _ _ _ _)
   | (with_reducible exact testamurlaw42_sane.mono _)
   | (with_reducible exact testamurref42_Has.mono _ _ _ _ _ _ _ _)
   | (with_reducible exact LeO.refl _)
   | (with_reducible exact LeO.none _)
   | (with_reducible refine LeO.ite ?_ ?_)
   | (with_reducible refine LeO.bind ?_ (fun _ => ?_))
   | exact ih0 _ _ _ _
   | exact ih1 _ _ _ _ _
   | exact ih2 _ _ _ _
   | exact ih3 _ _ _ _ _ _
   | exact ih4 _ _ _ _ _
   | exact ih5 _ _ _ _ _ _ _
   | exact ih6 _ _ _ _ _ _ _
   | exact ih7 _ _ _ _ _ _ _ _ _ _ _ _
   | exact ih8 _ _ _ _ _ _ _ _ _ _ _ _
   | exact testamurlaw42_had.mono _ _ _ _ _
   | exact testamurlaw42_sane.mono _
   | exact testamurref42_Has.mono _ _ _ _ _ _ _ _
   | exact LeO.none _
   | refine LeO.ite ?_ ?_
   | refine LeO.bind ?_ (fun _ => ?_)
  ·intro y0 y1 y2 y3
   unfold testamurlaw42_DevicesStale.j2
   repeat' first
   | (with_reducible exact ih0 _ _ _ _)
   | (with_reducible exact ih1 _ _ _ _ _)
   | (with_reducible exact ih2 _ _ _ _)
   | (with_reducible exact ih3 _ _ _ _ _ _)
   | (with_reducible exact ih4 _ _ _ _ _)
   | (with_reducible exact ih5 _ _ _ _ _ _ _)
   | (with_reducible exact ih6 _ _ _ _ _ _ _)
   | (with_reducible exact ih7 _ _ _ _ _ _ _ _ _ _ _ _)
   | (with_reducible exact ih8 _ _ _ _ _ _ _ _ _ _ _ _)
   | (with_reducible exact testamurlaw42_had.mono _ _ _ _ _)
   | (with_reducible exact testamurlaw42_sane.mono _)
   | (with_reducible exact testamurref42_Has.mono _ _ _ _ _ _ _ _)
   | (with_reducible exact LeO.refl _)
   | (with_reducible exact LeO.none _)
   | (with_reducible refine LeO.ite ?_ ?_)
   | (with_reducible refine LeO.bind ?_ (fun _ => ?_))
   | exact ih0 _ _ _ _
   | exact ih1 _ _ _ _ _
   | exact ih2 _ _ _ _
   | exact ih3 _ _ _ _ _ _
   | exact ih4 _ _ _ _ _
   | exact ih5 _ _ _ _ _ _ _
   | exact ih6 _ _ _ _ _ _ _
   | exact ih7 _ _ _ _ _ _ _ _ _ _ _ _
   | exact ih8 _ _ _ _ _ _ _ _ _ _ _ _
   | exact testamurlaw42_had.mono _ _ _ _ _
   | exact testamurlaw42_sane.mono _
   | exact testamurref42_Has.mono _ _ _ _ _ _ _ _
   | exact LeO.none _
   | refine LeO.ite ?_ ?_
   | refine LeO.bind ?_ (fun _ => ?_)
  ·intro y0 y1 y2 y3 y4 y5
   unfold testamurlaw42_DevicesStale.j3
   repeat' first
   | (with_reducible exact ih0 _ _ _ _)
   | (with_reducible exact ih1 _ _ _ _ _)
   | (with_reducible exact ih2 _ _ _ _)
   | (with_reducible exact ih3 _ _ _ _ _ _)
   | (with_reducible exact ih4 _ _ _ _ _)
   | (with_reducible exact ih5 _ _ _ _ _ _ _)
   | (with_reducible exact ih6 _ _ _ _ _ _ _)
   | (with_reducible exact ih7 _ _ _ _ _ _ _ _ _ _ _ _)
   | (with_reducible exact ih8 _ _ _ _ _ _ _ _ _ _ _ _)
   | (with_reducible exact testamurlaw42_had.mono _ _ _ _ _)
   | (with_reducible exact testamurlaw42_sane.mono _)
   | (with_reducible exact testamurref42_Has.mono _ _ _ _ _ _ _ _)
   | (with_reducible exact LeO.refl _)
   | (with_reducible exact LeO.none _)
   | (with_reducible refine LeO.ite ?_ ?_)
   | (with_reducible refine LeO.bind ?_ (fun _ => ?_))
   | exact ih0 _ _ _ _
   | exact ih1 _ _ _ _ _
   | exact ih2 _ _ _ _
   | exact ih3 _ _ _ _ _ _
   | exact ih4 _ _ _ _ _
   | exact ih5 _ _ _ _ _ _ _
   | exact ih6 _ _ _ _ _ _ _
   | exact ih7 _ _ _ _ _ _ _ _ _ _ _ _
   | exact ih8 _ _ _ _ _ _ _ _ _ _ _ _
   | exact testamurlaw42_had.mono _ _ _ _ _
   | exact testamurlaw42_sane.mono _
   | exact testamurref42_Has.mono _ _ _ _ _ _ _ _
   | exact LeO.none _
   | refine LeO.ite ?_ ?_
   | refine LeO.bind ?_ (fun _ => ?_)
  ·intro y0 y1 y2 y3 y4
   unfold testamurlaw42_DevicesStale.j4
   repeat' first
   | (with_reducible exact ih0 _ _ _ _)
   | (with_reducible exact ih1 _ _ _ _ _)
   | (with_reducible exact ih2 _ _ _ _)
   | (with_reducible exact ih3 _ _ _ _ _ _)
   | (with_reducible exact ih4 _ _ _ _ _)
   | (with_reducible exact ih5 _ _ _ _ _ _ _)
   | (with_reducible exact ih6 _ _ _ _ _ _ _)
   | (with_reducible exact ih7 _ _ _ _ _ _ _ _ _ _ _ _)
   | (with_reducible exact ih8 _ _ _ _ _ _ _ _ _ _ _ _)
   | (with_reducible exact testamurlaw42_had.mono _ _ _ _ _)
   | (with_reducible exact testamurlaw42_sane.mono _)
   | (with_reducible exact testamurref42_Has.mono _ _ _ _ _ _ _ _)
   | (with_reducible exact LeO.refl _)
   | (with_reducible exact LeO.none _)
   | (with_reducible refine LeO.ite ?_ ?_)
   | (with_reducible refine LeO.bind ?_ (fun _ => ?_))
   | exact ih0 _ _ _ _
   | exact ih1 _ _ _ _ _
   | exact ih2 _ _ _ _
   | exact ih3 _ _ _ _ _ _
   | exact ih4 _ _ _ _ _
   | exact ih5 _ _ _ _ _ _ _
   | exact ih6 _ _ _ _ _ _ _
   | exact ih7 _ _ _ _ _ _ _ _ _ _ _ _
   | exact ih8 _ _ _ _ _ _ _ _ _ _ _ _
   | exact testamurlaw42_had.mono _ _ _ _ _
   | exact testamurlaw42_sane.mono _
   | exact testamurref42_Has.mono _ _ _ _ _ _ _ _
   | exact LeO.none _
   | refine LeO.ite ?_ ?_
   | refine LeO.bind ?_ (fun _ => ?_)
  ·intro y0 y1 y2 y3 y4 y5 y6
   unfold testamurlaw42_DevicesStale.l0
   repeat' first
   | (with_reducible exact ih0 _ _ _ _)
   | (with_reducible exact ih1 _ _ _ _ _)
   | (with_reducible exact ih2 _ _ _ _)
   | (with_reducible exact ih3 _ _ _ _ _ _)
   | (with_reducible exact ih4 _ _ _ _ _)
   | (with_reducible exact ih5 _ _ _ _ _ _ _)
   | (with_reducible exact ih6 _ _ _ _ _ _ _)
   | (with_reducible exact ih7 _ _ _ _ _ _ _ _ _ _ _ _)
   | (with_reducible exact ih8 _ _ _ _ _ _ _ _ _ _ _ _)
   | (with_reducible exact testamurlaw42_had.mono _ _ _ _ _)
   | (with_reducible exact testamurlaw42_sane.mono _)
   | (with_reducible exact testamurref42_Has.mono _ _ _ _ _ _ _ _)
   | (with_reducible exact LeO.refl _)
   | (with_reducible exact LeO.none _)
   | (with_reducible refine LeO.ite ?_ ?_)
   | (with_reducible refine LeO.bind ?_ (fun _ => ?_))
   | exact ih0 _ _ _ _
   | exact ih1 _ _ _ _ _
   | exact ih2 _ _ _ _
   | exact ih3 _ _ _ _ _ _
   | exact ih4 _ _ _ _ _
   | exact ih5 _ _ _ _ _ _ _
   | exact ih6 _ _ _ _ _ _ _
   | exact ih7 _ _ _ _ _ _ _ _ _ _ _ _
   | exact ih8 _ _ _ _ _ _ _ _ _ _ _ _
   | exact testamurlaw42_had.mono _ _ _ _ _
   | exact testamurlaw42_sane.mono _
   | exact testamurref42_Has.mono _ _ _ _ _ _ _ _
   | exact LeO.none _
   | refine LeO.ite ?_ ?_
   | refine LeO.bind ?_ (fun _ => ?_)
  ·intro y0 y1 y2 y3 y4 y5 y6
   unfold testamurlaw42_DevicesStale.j6
   repeat' first
   | (with_reducible exact ih0 _ _ _ _)
   | (with_reducible exact ih1 _ _ _ _ _)
   | (with_reducible exact ih2 _ _ _ _)
   | (with_reducible exact ih3 _ _ _ _ _ _)
   | (with_reducible exact ih4 _ _ _ _ _)
   | (with_reducible exact ih5 _ _ _ _ _ _ _)
   | (with_reducible exact ih6 _ _ _ _ _ _ _)
   | (with_reducible exact ih7 _ _ _ _ _ _ _ _ _ _ _ _)
   | (with_reducible exact ih8 _ _ _ _ _ _ _ _ _ _ _ _)
   | (with_reducible exact testamurlaw42_had.mono _ _ _ _ _)
   | (with_reducible exact testamurlaw42_sane.mono _)
   | (with_reducible exact testamurref42_Has.mono _ _ _ _ _ _ _ _)
   | (with_reducible exact LeO.refl _)
   | (with_reducible exact LeO.none _)
   | (with_reducible refine LeO.ite ?_ ?_)
   | (with_reducible refine LeO.bind ?_ (fun _ => ?_))
   | exact ih0 _ _ _ _
   | exact ih1 _ _ _ _ _
   | exact ih2 _ _ _ _
   | exact ih3 _ _ _ _ _ _
   | exact ih4 _ _ _ _ _
   | exact ih5 _ _ _ _ _ _ _
   | exact ih6 _ _ _ _ _ _ _
   | exact ih7 _ _ _ _ _ _ _ _ _ _ _ _
   | exact ih8 _ _ _ _ _ _ _ _ _ _ _ _
   | exact testamurlaw42_had.mono _ _ _ _ _
   | exact testamurlaw42_sane.mono _
   | exact testamurref42_Has.mono _ _ _ _ _ _ _ _
   | exact LeO.none _
   | refine LeO.ite ?_ ?_
   | refine LeO.bind ?_ (fun _ => ?_)
  ·intro y0 y1 y2 y3 y4 y5 y6 y7 y8 y9 y10 y11
   unfold testamurlaw42_DevicesStale.l1
   repeat' first
   | (with_reducible exact ih0 _ _ _ _)
   | (with_reducible exact ih1 _ _ _ _ _)
   | (with_reducible exact ih2 _ _ _ _)
   | (with_reducible exact ih3 _ _ _ _ _ _)
   | (with_reducible exact ih4 _ _ _ _ _)
   | (with_reducible exact ih5 _ _ _ _ _ _ _)
   | (with_reducible exact ih6 _ _ _ _ _ _ _)
   | (with_reducible exact ih7 _ _ _ _ _ _ _ _ _ _ _ _)
   | (with_reducible exact ih8 _ _ _ _ _ _ _ _ _ _ _ _)
   | (with_reducible exact testamurlaw42_had.mono _ _ _ _ _)
   | (with_reducible exact testamurlaw42_sane.mono _)
   | (with_reducible exact testamurref42_Has.mono _ _ _ _ _ _ _ _)
   | (with_reducible exact LeO.refl _)
   | (with_reducible exact LeO.none _)
   | (with_reducible refine LeO.ite ?_ ?_)
   | (with_reducible refine LeO.bind ?_ (fun _ => ?_))
   | exact ih0 _ _ _ _
   | exact ih1 _ _ _ _ _
   | exact ih2 _ _ _ _
   | exact ih3 _ _ _ _ _ _
   | exact ih4 _ _ _ _ _
   | exact ih5 _ _ _ _ _ _ _
   | exact ih6 _ _ _ _ _ _ _
   | exact ih7 _ _ _ _ _ _ _ _ _ _ _ _
   | exact ih8 _ _ _ _ _ _ _ _ _ _ _ _
   | exact testamurlaw42_had.mono _ _ _ _ _
   | exact testamurlaw42_sane.mono _
   | exact testamurref42_Has.mono _ _ _ _ _ _ _ _
   | exact LeO.none _
   | refine LeO.ite ?_ ?_
   | refine LeO.bind ?_ (fun _ => ?_)
  ·intro y0 y1 y2 y3 y4 y5 y6 y7 y8 y9 y10 y11
   unfold testamurlaw42_DevicesStale.j8
   repeat' first
   | (with_reducible exact ih0 _ _ _ _)
   | (with_reducible exact ih1 _ _ _ _ _)
   | (with_reducible exact ih2 _ _ _ _)
   | (with_reducible exact ih3 _ _ _ _ _ _)
   | (with_reducible exact ih4 _ _ _ _ _)
   | (with_reducible exact ih5 _ _ _ _ _ _ _)
   | (with_reducible exact ih6 _ _ _ _ _ _ _)
   | (with_reducible exact ih7 _ _ _ _ _ _ _ _ _ _ _ _)
   | (with_reducible exact ih8 _ _ _ _ _ _ _ _ _ _ _ _)
   | (with_reducible exact testamurlaw42_had.mono _ _ _ _ _)
   | (with_reducible exact testamurlaw42_sane.mono _)
   | (with_reducible exact testamurref42_Has.mono _ _ _ _ _ _ _ _)
   | (with_reducible exact LeO.refl _)
   | (with_reducible exact LeO.none _)
   | (with_reducible refine LeO.ite ?_ ?_)
   | (with_reducible refine LeO.bind ?_ (fun _ => ?_))
   | exact ih0 _ _ _ _
   | exact ih1 _ _ _ _ _
   | exact ih2 _ _ _ _
   | exact ih3 _ _ _ _ _ _
   | exact ih4 _ _ _ _ _
   | exact ih5 _ _ _ _ _ _ _
   | exact ih6 _ _ _ _ _ _ _
   | exact ih7 _ _ _ _ _ _ _ _ _ _ _ _
   | exact ih8 _ _ _ _ _ _ _ _ _ _ _ _
   | exact testamurlaw42_had.mono _ _ _ _ _
   | exact testamurlaw42_sane.mono _
   | exact testamurref42_Has.mono _ _ _ _ _ _ _ _
   | exact LeO.none _
   | refine LeO.ite ?_ ?_
   | refine LeO.bind ?_ (fun _ => ?_)
theorem testamurlaw42_DevicesStale.mono : ∀ a0 a1 a2 a3 k, LeO (testamurlaw42_DevicesStale.f k a0 a1 a2 a3) (testamurlaw42_DevicesStale.f (k + 1) a0 a1 a2 a3) := by
 intro a0 a1 a2 a3 k
 obtain ⟨ih0, ih1, ih2, ih3, ih4, ih5, ih6, ih7, ih8⟩ := testamurlaw42_DevicesStale.mono_l k
 unfold testamurlaw42_DevicesStale.f
 repeat' first
   | (with_reducible exact ih0 _ _ _ _)
   | (with_reducible exact ih1 _ _ _ _ _)
   | (with_reducible exact ih2 _ _ _ _)
   | (with_reducible exact ih3 _ _ _ _ _ _)
   | (with_reducible exact ih4 _ _ _ _ _)
   | (with_reducible exact ih5 _ _ _ _ _ _ _)
   | (with_reducible exact ih6 _ _ _ _ _ _ _)
   | (with_reducible exact ih7 _ _ _ _ _ _ _ _ _ _ _ _)
   | (with_reducible exact ih8 _ _ _ _ _ _ _ _ _ _ _ _)
   | (with_reducible exact testamurlaw42_had.mono _ _ _ _ _)
   | (with_reducible exact testamurlaw42_sane.mono _)
   | (with_reducible exact testamurref42_Has.mono _ _ _ _ _ _ _ _)
   | (with_reducible exact LeO.refl _)
   | (with_reducible exact LeO.none _)
   | (with_reducible refine LeO.ite ?_ ?_)
   | (with_reducible refine LeO.bind ?_ (fun _ => ?_))
   | exact ih0 _ _ _ _
   | exact ih1 _ _ _ _ _
   | exact ih2 _ _ _ _
   | exact ih3 _ _ _ _ _ _
   | exact ih4 _ _ _ _ _
   | exact ih5 _ _ _ _ _ _ _
   | exact ih6 _ _ _ _ _ _ _
   | exact ih7 _ _ _ _ _ _ _ _ _ _ _ _
   | exact ih8 _ _ _ _ _ _ _ _ _ _ _ _
   | exact testamurlaw42_had.mono _ _ _ _ _
   | exact testamurlaw42_sane.mono _
   | exact testamurref42_Has.mono _ _ _ _ _ _ _ _
   | exact LeO.none _
   | refine LeO.ite ?_ ?_
   | refine LeO.bind ?_ (fun _ => ?_)
def testamurlaw42_DevicesStale.T17 : Bool × List (List Nat × List Nat) := (true, [([], []), ([0], [0]), ([], []), ([1, 2], [1, 2]), ([3], [3]), ([4], [4]), ([4], [4]), ([5, 6, 4, 4], [4, 5, 6]), ([7, 4], [4, 7]), ([4, 8], [4, 8]), ([9, 7], [9]), ([10], [10]), ([11, 10], [10, 11]), ([10], [10]), ([10], [10]), ([13, 14, 10], [10, 13, 14]), ([15, 10], [10, 15]), ([16, 10], [10, 16]), ([12, 17, 10], [10, 12, 17]), ([18, 10, 10], [10, 18]), ([19], [19]), ([19], [19]), ([19], [19]), ([19], [19]), ([23, 19], [19, 23]), ([20, 21, 22, 24, 19, 19], [19, 20, 21, 22, 24]), ([19, 25, 10], [10, 19, 25]), ([10, 26], [10, 26])])
def testamurlaw42_DevicesStale.B17 : List Nat := [0, 1, 0, 7, 15, 31, 31, 127, 255, 511, 1023, 2047, 4095, 2047, 2047, 26623, 59391, 124927, 262143, 524287, 1048575, 1048575, 1048575, 1048575, 9437183, 33554431, 67108863, 134217727]
theorem testamurlaw42_DevicesStale.tab17 : rtab .any (opsOf Try.f10 17) = testamurlaw42_DevicesStale.T17 := by kernel_rfl
theorem testamurlaw42_DevicesStale.bits17 : waitsOk testamurlaw42_DevicesStale.T17.2 testamurlaw42_DevicesStale.B17 = true := by kernel_rfl
def testamurlaw42_DevicesStale.T20 : Bool × List (List Nat × List Nat) := (true, [([], []), ([0], [0]), ([1], [1]), ([2], [2]), ([2], [2]), ([3, 4, 2], [2, 3, 4]), ([5, 2], [2, 5]), ([2], [2]), ([2], [2]), ([7, 8, 2], [2, 7, 8]), ([9, 2], [2, 9]), ([6, 10, 2], [2, 6, 10]), ([2, 11], [2, 11])])
def testamurlaw42_DevicesStale.B20 : List Nat := [0, 1, 3, 7, 7, 31, 63, 7, 7, 391, 903, 2047, 4095]
theorem testamurlaw42_DevicesStale.tab20 : rtab .any (opsOf Try.f10 20) = testamurlaw42_DevicesStale.T20 := by kernel_rfl
theorem testamurlaw42_DevicesStale.bits20 : waitsOk testamurlaw42_DevicesStale.T20.2 testamurlaw42_DevicesStale.B20 = true := by kernel_rfl
set_option maxHeartbeats 8000000 in
set_option maxRecDepth 100000 in
theorem testamurlaw42_DevicesStale.calls (k : Nat) (A0 : Option Addr) (c0 : Nat) (l0 : List (S40)) (A1 : Option Addr) (c1 : Nat) (l1 : List (S40)) (a2 : Int) (a3 : Int) (r : Bool) (w : World) (hr0 : Kd.C k40 w A0 l0.length l0) (hc0 : l0.length ≤ c0) (hr1 : Kd.C k40 w A1 l1.length l1) (hc1 : l1.length ≤ c1) (h : testamurlaw42_DevicesStale.f k l0 l1 a2 a3 = some r) :
  Calls Try.prog 10 #[.slice A0 l0.length c0, .slice A1 l1.length c1, .int .i64 a2, .int .i64 a3] w fun e w' => e = .returned (.bool r) ∧ Below w.heap.size w w' := by
 have hu40 := Try.underlying40
 have hu47 := Try.underlying47
 have HR0 := Aside0.mk hr0
 have HC0 := Aside0.mk hc0
 clear hr0 hc0
 have HR1 := Aside0.mk hr1
 have HC1 := Aside0.mk hc1
 clear hr1 hc1
 have HB := Aside0.mk (Below.refl w.heap.size w)
 have H : ((testamurlaw42_sane.f k).bind fun t484 => (if t484 = true then (testamurlaw42_DevicesStale.j0 k l0 l1 a2 a3) else (none))) = some r := h
 clear h
 replace H := Option.bind_eq_some_iff.mp H
 obtain ⟨t484, A50, H⟩ := H
 replace H : (if t484 = true then (testamurlaw42_DevicesStale.j0 k l0 l1 a2 a3) else (none)) = some r := H
 have A5 := Aside0.mk A50
 clear A50
 have HC6 := Aside0.mk H
 clear H
 go_enter Try.func10, Try.ntmps10
 try simp only [List.append]
 go_upto_if 20 with (first | ((with_reducible refine gate_callee (f := 25) rfl ?_); refine goesL_ (some 19) rfl rfl Try.func25 (by kernel_rfl) rfl #[] rfl (by (try simp only [List.map_toArray, List.map_cons, List.map_nil]); first | done | rfl | (simp only [List.length_drop, List.length_take]; rfl)) ?_; (with_reducible refine (testamurlaw42_sane.calls k  t484 _ A5.out).mono ?_); rintro e w7 ⟨rfl, hb⟩; refine ⟨_, rfl, ?_⟩; have n0_ := Aside0.mk (below_step (by repeat (first | (with_reducible first | exact HB.out | apply below_alloc | apply pw_below_drewN | apply below_drew1) | exact HB.out)) hb); clear HB; have HB := n0_; clear n0_; (try clear hb); (try clear hb2); (try clear hk); (try clear hi)))
 (try simp only [Act.put, List.setIfInBounds_toArray, List.set_cons_zero, List.set_cons_succ])
 go_cut [] (fun wc => ∃ (kq : Nat), Aside0 (testamurlaw42_DevicesStale.j0 kq l0 l1 a2 a3 = some r) ∧ Aside0 (kq ≤ k) ∧ Aside0 (Below w.heap.size w wc))
 case first =>
  have H := HC6.out
  clear HC6
  by_cases c8 : t484 = true
  ·subst c8
   have H1 : (testamurlaw42_DevicesStale.j0 k l0 l1 a2 a3) = some r := by rw [if_pos rfl] at H; exact H
   clear H
   have H := H1
   clear H1
   have H' := Aside0.mk H
   clear H
   go_wp2
   go_meet
   case rel => exact ⟨_, H', ⟨by first | omega | exact Nat.le_refl _⟩, ⟨by repeat (first | (with_reducible first | exact HB.out | apply below_alloc | apply pw_below_drewN | apply below_drew1) | exact HB.out)⟩⟩
  ·replace c8 := Bool.eq_false_iff.mpr c8
   subst c8
   have H1 : (none) = some r := by rw [if_neg (show ¬ (false = true) by decide)] at H; exact H
   clear H
   have H := H1
   clear H1
   exact absurd H (by simp)
 case rest =>
  clear HC6
  try clear c1
  try clear c2
  try clear p2
  try clear c8
  obtain ⟨kq, HA, HJ5, HB⟩ := hcut
  cases kq with
  | zero => exact absurd HA.out (by simp [testamurlaw42_DevicesStale.j0])
  | succ kj5 =>
   have H := HA.out
   clear HA
   simp only [testamurlaw42_DevicesStale.j0] at H
   have HC9 := Aside0.mk H
   clear H
   go_upto_region 3 with (fail)
   go_cut [32] (fun v32 wc => ∃ (kq : Nat) (x32_8 : Bool), v32 = .bool x32_8 ∧ Aside0 (testamurlaw42_DevicesStale.j1 kq l0 l1 a2 a3 x32_8 = some r) ∧ Aside0 (kq ≤ kj5) ∧ Aside0 (Below w.heap.size w wc))
   case first =>
    have H := HC9.out
    clear HC9
    replace H := Option.bind_eq_some_iff.mp H
    obtain ⟨t485, A100, H⟩ := H
    replace H : (if t485 = true then ((testamurref42_Few.f l1).bind fun t486 => (if t486 = true then (testamurlaw42_DevicesStale.j1 kj5 l0 l1 a2 a3 (decide (a2 > 50))) else (testamurlaw42_DevicesStale.j1 kj5 l0 l1 a2 a3 true))) else (testamurlaw42_DevicesStale.j1 kj5 l0 l1 a2 a3 true)) = some r := H
    have A10 := Aside0.mk A100
    clear A100
    by_cases c11 : t485 = true
    ·subst c11
     have H1 : ((testamurref42_Few.f l1).bind fun t486 => (if t486 = true then (testamurlaw42_DevicesStale.j1 kj5 l0 l1 a2 a3 (decide (a2 > 50))) else (testamurlaw42_DevicesStale.j1 kj5 l0 l1 a2 a3 true))) = some r := by rw [if_pos rfl] at H; exact H
     clear H
     have H := H1
     clear H1
     replace H := Option.bind_eq_some_iff.mp H
     obtain ⟨t486, A120, H⟩ := H
     replace H : (if t486 = true then (testamurlaw42_DevicesStale.j1 kj5 l0 l1 a2 a3 (decide (a2 > 50))) else (testamurlaw42_DevicesStale.j1 kj5 l0 l1 a2 a3 true)) = some r := H
     have A12 := Aside0.mk A120
     clear A120
     by_cases c13 : t486 = true
     ·subst c13
      have H1 : (testamurlaw42_DevicesStale.j1 kj5 l0 l1 a2 a3 (decide (a2 > 50))) = some r := by rw [if_pos rfl] at H; exact H
      clear H
      have H := H1
      clear H1
      have H' := Aside0.mk H
      clear H
      go_wp2_with ((with_reducible refine gate_callee (f := 26) rfl ?_); refine Aside0.out (p := _) ?_)
      refine ⟨?_⟩
      refine goesL_ (some 22) rfl rfl Try.func26 (by kernel_rfl) rfl #[.slice A0 l0.length c0] rfl (by (try simp only [List.map_toArray, List.map_cons, List.map_nil]); first | done | rfl | (simp only [List.length_drop, List.length_take]; rfl)) ?_
      (with_reducible refine (testamurref42_Few.calls _ _ l0 true _ ?side1 ?side2 A10.out).mono ?_)
      (case side1 => repeat (first | exact (Kd.C_below HR0.out HB.out) | (with_reducible refine Kd.C_alloc ?_ _) | (with_reducible refine Kd.C_drewN ?_ _) | (with_reducible refine Kd.C_drew ?_)))
      (case side2 => exact HC0.out)
      rintro e w' ⟨rfl, ⟨nd, rfl⟩⟩
      refine ⟨_, rfl, ?_⟩
      go_wp2_with (go_at_call 26; (with_reducible refine (testamurref42_Few.calls _ _ l1 true _ ?side1 ?side2 A12.out).mono ?_); (case side1 => repeat (first | exact (Kd.C_below HR1.out (by repeat (first | (with_reducible first | exact HB.out | apply below_alloc | apply pw_below_drewN | apply below_drew1) | exact HB.out))) | (with_reducible refine Kd.C_alloc ?_ _) | (with_reducible refine Kd.C_drewN ?_ _) | (with_reducible refine Kd.C_drew ?_))); (case side2 => exact HC1.out); refine Aside0.out (p := _) ?_)
      refine ⟨?_⟩
      rintro e w' ⟨rfl, ⟨nd, rfl⟩⟩
      go_wp2
      go_meet
      case rel => exact ⟨_, (decide (a2 > 50)), (by first | rfl | (simp; done) | (simp [*]; done)), H', ⟨by have := HJ5.out; first | omega | exact Nat.le_refl _⟩, ⟨by repeat (first | (with_reducible first | exact HB.out | apply below_alloc | apply pw_below_drewN | apply below_drew1) | exact HB.out)⟩⟩
     ·replace c13 := Bool.eq_false_iff.mpr c13
      subst c13
      have H1 : (testamurlaw42_DevicesStale.j1 kj5 l0 l1 a2 a3 true) = some r := by rw [if_neg (show ¬ (false = true) by decide)] at H; exact H
      clear H
      have H := H1
      clear H1
      have H' := Aside0.mk H
      clear H
      go_wp2_with ((with_reducible refine gate_callee (f := 26) rfl ?_); refine Aside0.out (p := _) ?_)
      refine ⟨?_⟩
      refine goesL_ (some 22) rfl rfl Try.func26 (by kernel_rfl) rfl #[.slice A0 l0.length c0] rfl (by (try simp only [List.map_toArray, List.map_cons, List.map_nil]); first | done | rfl | (simp only [List.length_drop, List.length_take]; rfl)) ?_
      (with_reducible refine (testamurref42_Few.calls _ _ l0 true _ ?side1 ?side2 A10.out).mono ?_)
      (case side1 => repeat (first | exact (Kd.C_below HR0.out HB.out) | (with_reducible refine Kd.C_alloc ?_ _) | (with_reducible refine Kd.C_drewN ?_ _) | (with_reducible refine Kd.C_drew ?_)))
      (case side2 => exact HC0.out)
      rintro e w' ⟨rfl, ⟨nd, rfl⟩⟩
      refine ⟨_, rfl, ?_⟩
      go_wp2_with (go_at_call 26; (with_reducible refine (testamurref42_Few.calls _ _ l1 false _ ?side1 ?side2 A12.out).mono ?_); (case side1 => repeat (first | exact (Kd.C_below HR1.out (by repeat (first | (with_reducible first | exact HB.out | apply below_alloc | apply pw_below_drewN | apply below_drew1) | exact HB.out))) | (with_reducible refine Kd.C_alloc ?_ _) | (with_reducible refine Kd.C_drewN ?_ _) | (with_reducible refine Kd.C_drew ?_))); (case side2 => exact HC1.out); refine Aside0.out (p := _) ?_)
      refine ⟨?_⟩
      rintro e w' ⟨rfl, ⟨nd, rfl⟩⟩
      go_wp2
      go_meet
      case rel => exact ⟨_, (true), (by first | rfl | (simp; done) | (simp [*]; done)), H', ⟨by have := HJ5.out; first | omega | exact Nat.le_refl _⟩, ⟨by repeat (first | (with_reducible first | exact HB.out | apply below_alloc | apply pw_below_drewN | apply below_drew1) | exact HB.out)⟩⟩
    ·replace c11 := Bool.eq_false_iff.mpr c11
     subst c11
     have H1 : (testamurlaw42_DevicesStale.j1 kj5 l0 l1 a2 a3 true) = some r := by rw [if_neg (show ¬ (false = true) by decide)] at H; exact H
     clear H
     have H := H1
     clear H1
     have H' := Aside0.mk H
     clear H
     go_wp2_with ((with_reducible refine gate_callee (f := 26) rfl ?_); refine Aside0.out (p := _) ?_)
     refine ⟨?_⟩
     refine goesL_ (some 22) rfl rfl Try.func26 (by kernel_rfl) rfl #[.slice A0 l0.length c0] rfl (by (try simp only [List.map_toArray, List.map_cons, List.map_nil]); first | done | rfl | (simp only [List.length_drop, List.length_take]; rfl)) ?_
     (with_reducible refine (testamurref42_Few.calls _ _ l0 false _ ?side1 ?side2 A10.out).mono ?_)
     (case side1 => repeat (first | exact (Kd.C_below HR0.out HB.out) | (with_reducible refine Kd.C_alloc ?_ _) | (with_reducible refine Kd.C_drewN ?_ _) | (with_reducible refine Kd.C_drew ?_)))
     (case side2 => exact HC0.out)
     rintro e w' ⟨rfl, ⟨nd, rfl⟩⟩
     refine ⟨_, rfl, ?_⟩
     go_wp2
     go_meet
     case rel => exact ⟨_, (true), (by first | rfl | (simp; done) | (simp [*]; done)), H', ⟨by have := HJ5.out; first | omega | exact Nat.le_refl _⟩, ⟨by repeat (first | (with_reducible first | exact HB.out | apply below_alloc | apply pw_below_drewN | apply below_drew1) | exact HB.out)⟩⟩
   case rest =>
    clear HC9
    try clear c1
    try clear c2
    try clear p2
    try clear c8
    try clear c10
    try clear c11
    try clear c13
    try clear p2
    obtain ⟨kq, x32_8, rfl, HA, HJ8, HB⟩ := hcut
    cases kq with
    | zero => exact absurd HA.out (by simp [testamurlaw42_DevicesStale.j1])
    | succ kj8 =>
     have H := HA.out
     clear HA
     simp only [testamurlaw42_DevicesStale.j1] at H
     have HC14 := Aside0.mk H
     clear H
     go_upto_if 32 with (fail)
     go_cut [] (fun wc => ∃ (kq : Nat), Aside0 (testamurlaw42_DevicesStale.j2 kq l0 l1 a2 a3 = some r) ∧ Aside0 (kq ≤ kj8) ∧ Aside0 (Below w.heap.size w wc))
     case first =>
      have H := HC14.out
      clear HC14
      by_cases c15 : x32_8 = true
      ·subst c15
       have H1 : (some true) = some r := by rw [if_pos rfl] at H; exact H
       clear H
       have H := H1
       clear H1
       obtain rfl := Option.some.inj H
       go_wp2
       go_ret
       exact ⟨by first | rfl | (simp [errW_none, errW_some] <;> rfl) | (simp [*, errW_none, errW_some] <;> rfl), by repeat (first | (with_reducible first | exact HB.out | apply below_alloc | apply pw_below_drewN | apply below_drew1) | exact HB.out)⟩
      ·replace c15 := Bool.eq_false_iff.mpr c15
       subst c15
       have H1 : (testamurlaw42_DevicesStale.j2 kj8 l0 l1 a2 a3) = some r := by rw [if_neg (show ¬ (false = true) by decide)] at H; exact H
       clear H
       have H := H1
       clear H1
       have H' := Aside0.mk H
       clear H
       go_wp2
       go_meet
       case rel => exact ⟨_, H', ⟨by have := HJ5.out; have := HJ8.out; first | omega | exact Nat.le_refl _⟩, ⟨by repeat (first | (with_reducible first | exact HB.out | apply below_alloc | apply pw_below_drewN | apply below_drew1) | exact HB.out)⟩⟩
     case rest =>
      clear HC14
      try clear c1
      try clear c2
      try clear p2
      try clear c8
      try clear c10
      try clear c11
      try clear c13
      try clear c15
      try clear p2
      obtain ⟨kq, HA, HJ13, HB⟩ := hcut
      cases kq with
      | zero => exact absurd HA.out (by simp [testamurlaw42_DevicesStale.j2])
      | succ kj13 =>
       have H := HA.out
       clear HA
       simp only [testamurlaw42_DevicesStale.j2] at H
       replace H := Option.bind_eq_some_iff.mp H
       obtain ⟨⟨t487, t488⟩, A160, H⟩ := H
       replace H : ((devices_State.f l0 a2 a3).bind fun bt491 => ((devices_State.f t487 a2 a3).bind fun bt495 => (if t488 = 0 then (if bt491.2 = 0 then (testamurlaw42_DevicesStale.j3 kj13 l0 l1 a3 bt491.1 bt495.1 (bt495.2 != 0)) else (testamurlaw42_DevicesStale.j3 kj13 l0 l1 a3 bt491.1 bt495.1 true)) else (testamurlaw42_DevicesStale.j3 kj13 l0 l1 a3 bt491.1 bt495.1 true)))) = some r := H
       have A16 := Aside0.mk A160
       clear A160
       replace H := Option.bind_eq_some_iff.mp H
       obtain ⟨⟨t491, t492⟩, A170, H⟩ := H
       replace H : ((devices_State.f t487 a2 a3).bind fun bt495 => (if t488 = 0 then (if t492 = 0 then (testamurlaw42_DevicesStale.j3 kj13 l0 l1 a3 t491 bt495.1 (bt495.2 != 0)) else (testamurlaw42_DevicesStale.j3 kj13 l0 l1 a3 t491 bt495.1 true)) else (testamurlaw42_DevicesStale.j3 kj13 l0 l1 a3 t491 bt495.1 true))) = some r := H
       have A17 := Aside0.mk A170
       clear A170
       replace H := Option.bind_eq_some_iff.mp H
       obtain ⟨⟨t495, t496⟩, A180, H⟩ := H
       replace H : (if t488 = 0 then (if t492 = 0 then (testamurlaw42_DevicesStale.j3 kj13 l0 l1 a3 t491 t495 (t496 != 0)) else (testamurlaw42_DevicesStale.j3 kj13 l0 l1 a3 t491 t495 true)) else (testamurlaw42_DevicesStale.j3 kj13 l0 l1 a3 t491 t495 true)) = some r := H
       have A18 := Aside0.mk A180
       clear A180
       have HC19 := Aside0.mk H
       clear H
       go_upto_region 8 with (first | ((with_reducible refine gate_callee (f := 31) rfl ?_); refine goesL_ (some 36) rfl rfl Try.func31 (by kernel_rfl) rfl #[.slice A0 l0.length c0, .slice A1 l1.length c1] rfl (by (try simp only [List.map_toArray, List.map_cons, List.map_nil]); first | done | rfl | (simp only [List.length_drop, List.length_take]; rfl)) ?_; (with_reducible refine (devices_Merge.calls _ _ l0 _ _ l1 t487 t488 _ ?side1 ?side2 ?side3 ?side4 A16.out).mono ?_); (case side1 => repeat (first | exact (Kd.C_below HR0.out HB.out) | (with_reducible refine Kd.C_alloc ?_ _) | (with_reducible refine Kd.C_drewN ?_ _) | (with_reducible refine Kd.C_drew ?_))); (case side2 => exact HC0.out); (case side3 => repeat (first | exact (Kd.C_below HR1.out HB.out) | (with_reducible refine Kd.C_alloc ?_ _) | (with_reducible refine Kd.C_drewN ?_ _) | (with_reducible refine Kd.C_drew ?_))); (case side4 => exact HC1.out); rintro e w20 ⟨v489, rfl, ho0, hb⟩; refine ⟨_, rfl, ?_⟩; have n0_ := Aside0.mk (Kd.R_lower ho0 (below_size (by repeat (first | (with_reducible first | exact HB.out | apply below_alloc | apply pw_below_drewN | apply below_drew1) | exact HB.out)))); have n1_ := Aside0.mk (below_step (by repeat (first | (with_reducible first | exact HB.out | apply below_alloc | apply pw_below_drewN | apply below_drew1) | exact HB.out)) hb); clear HB; have HO490 := n0_; have HB := n1_; clear n0_ n1_; (try clear hb); (try clear hb2); (try clear hk); (try clear hi); (try clear ho0)) | ((with_reducible refine gate_callee (f := 24) rfl ?_); refine goesL_ (some 43) rfl rfl Try.func24 (by kernel_rfl) rfl #[.slice A0 l0.length c0, .int .i64 a2, .int .i64 a3] rfl (by (try simp only [List.map_toArray, List.map_cons, List.map_nil]); first | done | rfl | (simp only [List.length_drop, List.length_take]; rfl)) ?_; (with_reducible refine (devices_State.calls _ _ l0 a2 a3 t491 t492 _ ?side1 ?side2 A17.out).mono ?_); (case side1 => repeat (first | exact (Kd.C_below HR0.out HB.out) | (with_reducible refine Kd.C_alloc ?_ _) | (with_reducible refine Kd.C_drewN ?_ _) | (with_reducible refine Kd.C_drew ?_))); (case side2 => exact HC0.out); rintro e w21 ⟨v493, rfl, ho0, hb⟩; refine ⟨_, rfl, ?_⟩; have n0_ := Aside0.mk (Kd.R_below (by (with_reducible repeat (first | apply Kd.R_alloc | apply Kd.R_drewN | apply Kd.R_drew)); exact HO490.out) hb); have n1_ := Aside0.mk (Kd.R_lower ho0 (below_size (by repeat (first | (with_reducible first | exact HB.out | apply below_alloc | apply pw_below_drewN | apply below_drew1) | exact HB.out)))); have n2_ := Aside0.mk (below_step (by repeat (first | (with_reducible first | exact HB.out | apply below_alloc | apply pw_below_drewN | apply below_drew1) | exact HB.out)) hb); clear HO490; clear HB; have HO490 := n0_; have HO494 := n1_; have HB := n2_; clear n0_ n1_ n2_; (try clear hb); (try clear hb2); (try clear hk); (try clear hi); (try clear ho0); obtain ⟨Ao22, co22, eo22⟩ := Kd.R_slice HO490.out; subst eo22) | ((with_reducible refine gate_callee (f := 24) rfl ?_); refine goesL_ (some 50) rfl rfl Try.func24 (by kernel_rfl) rfl #[.slice Ao22 t487.length co22, .int .i64 a2, .int .i64 a3] rfl (by (try simp only [List.map_toArray, List.map_cons, List.map_nil]); first | done | rfl | (simp only [List.length_drop, List.length_take]; rfl)) ?_; (with_reducible refine (devices_State.calls _ _ t487 a2 a3 t495 t496 _ ?side1 ?side2 A18.out).mono ?_); (case side1 => repeat (first | exact (Kd.R_reads' HO490.out).2.2 | (with_reducible refine Kd.C_alloc ?_ _) | (with_reducible refine Kd.C_drewN ?_ _) | (with_reducible refine Kd.C_drew ?_))); (case side2 => exact (Kd.R_reads' HO490.out).2.1); rintro e w23 ⟨v497, rfl, ho0, hb⟩; refine ⟨_, rfl, ?_⟩; have n0_ := Aside0.mk (Kd.R_below (by (with_reducible repeat (first | apply Kd.R_alloc | apply Kd.R_drewN | apply Kd.R_drew)); exact HO490.out) hb); have n1_ := Aside0.mk (Kd.R_elder' (by (with_reducible repeat (first | apply Kd.R_alloc | apply Kd.R_drewN | apply Kd.R_drew)); exact HO494.out) (Kd.R_base ho0) hb); have n2_ := Aside0.mk (Kd.R_lower (Kd.R_new' ho0 (Kd.R_lt (by (with_reducible repeat (first | apply Kd.R_alloc | apply Kd.R_drewN | apply Kd.R_drew)); exact HO494.out))) (below_size (by repeat (first | (with_reducible first | exact HB.out | apply below_alloc | apply pw_below_drewN | apply below_drew1) | exact HB.out)))); have n3_ := Aside0.mk (below_step (by repeat (first | (with_reducible first | exact HB.out | apply below_alloc | apply pw_below_drewN | apply below_drew1) | exact HB.out)) hb); clear HO490; clear HO494; clear HB; have HO490 := n0_; have HO494 := n1_; have HO498 := n2_; have HB := n3_; clear n0_ n1_ n2_ n3_; (try clear hb); (try clear hb2); (try clear hk); (try clear hi); (try clear ho0)))
       (try simp only [Act.put, List.setIfInBounds_toArray, List.set_cons_zero, List.set_cons_succ])
       go_cut [62] (fun v62 wc => ∃ (kq : Nat) (x62_18 : Bool), v62 = .bool x62_18 ∧ Aside0 (testamurlaw42_DevicesStale.j3 kq l0 l1 a3 t491 t495 x62_18 = some r) ∧ Aside0 (kq ≤ kj13) ∧ Aside0 (Kd.R k47 47 wc w.heap.size (fun k_ => some k_ ≠ (v497 : Value).ownBlock) v493 t491) ∧ Aside0 (Kd.R k47 47 wc w.heap.size (fun k_ => some k_ ≠ (v493 : Value).ownBlock) v497 t495) ∧ Aside0 (Below w.heap.size w wc))
       case first =>
        have H := HC19.out
        clear HC19
        by_cases c24 : t488 = 0
        ·rw [if_pos c24] at H
         have c24b0 : (t488 == 0) = true := beq_iff_eq.mpr c24
         have c24b1 : (t488 != 0) = false := bne_eq_false_iff_eq.mpr c24
         clear c24
         (first | rw [c24b0] | (simp only [i64_w, i32_w]; rw [c24b0]) | skip)
         by_cases c25 : t492 = 0
         ·rw [if_pos c25] at H
          have c25b0 : (t492 == 0) = true := beq_iff_eq.mpr c25
          have c25b1 : (t492 != 0) = false := bne_eq_false_iff_eq.mpr c25
          clear c25
          have H' := Aside0.mk H
          clear H
          go_wp2
          go_meet
          case rel => exact ⟨_, ((t496 != 0)), (by first | rfl | (simp; done) | (simp [*]; done)), H', ⟨by have := HJ5.out; have := HJ8.out; have := HJ13.out; first | omega | exact Nat.le_refl _⟩, ⟨by (with_reducible repeat (first | apply Kd.R_alloc | apply Kd.R_drewN | apply Kd.R_drew)); exact Kd.R_mono HO494.out (fun _ hk => hk.2)⟩, ⟨by (with_reducible repeat (first | apply Kd.R_alloc | apply Kd.R_drewN | apply Kd.R_drew)); exact Kd.R_mono HO498.out (fun _ hk => hk.2)⟩, ⟨by repeat (first | (with_reducible first | exact HB.out | apply below_alloc | apply pw_below_drewN | apply below_drew1) | exact HB.out)⟩⟩
         ·rw [if_neg c25] at H
          have c25b0 : (t492 == 0) = false := beq_eq_false_iff_ne.mpr c25
          have c25b1 : (t492 != 0) = true := bne_iff_ne.mpr c25
          have H' := Aside0.mk H
          clear H
          go_wp2
          go_meet
          case rel => exact ⟨_, (true), (by first | rfl | (simp; done) | (simp [*]; done)), H', ⟨by have := HJ5.out; have := HJ8.out; have := HJ13.out; first | omega | exact Nat.le_refl _⟩, ⟨by (with_reducible repeat (first | apply Kd.R_alloc | apply Kd.R_drewN | apply Kd.R_drew)); exact Kd.R_mono HO494.out (fun _ hk => hk.2)⟩, ⟨by (with_reducible repeat (first | apply Kd.R_alloc | apply Kd.R_drewN | apply Kd.R_drew)); exact Kd.R_mono HO498.out (fun _ hk => hk.2)⟩, ⟨by repeat (first | (with_reducible first | exact HB.out | apply below_alloc | apply pw_below_drewN | apply below_drew1) | exact HB.out)⟩⟩
        ·rw [if_neg c24] at H
         have c24b0 : (t488 == 0) = false := beq_eq_false_iff_ne.mpr c24
         have c24b1 : (t488 != 0) = true := bne_iff_ne.mpr c24
         (first | rw [c24b0] | (simp only [i64_w, i32_w]; rw [c24b0]) | skip)
         have H' := Aside0.mk H
         clear H
         go_wp2
         go_meet
         case rel => exact ⟨_, (true), (by first | rfl | (simp; done) | (simp [*]; done)), H', ⟨by have := HJ5.out; have := HJ8.out; have := HJ13.out; first | omega | exact Nat.le_refl _⟩, ⟨by (with_reducible repeat (first | apply Kd.R_alloc | apply Kd.R_drewN | apply Kd.R_drew)); exact Kd.R_mono HO494.out (fun _ hk => hk.2)⟩, ⟨by (with_reducible repeat (first | apply Kd.R_alloc | apply Kd.R_drewN | apply Kd.R_drew)); exact Kd.R_mono HO498.out (fun _ hk => hk.2)⟩, ⟨by repeat (first | (with_reducible first | exact HB.out | apply below_alloc | apply pw_below_drewN | apply below_drew1) | exact HB.out)⟩⟩
       case rest =>
        clear HC19
        try clear c1
        try clear c2
        try clear p2
        try clear c3
        try clear c8
        try clear c10
        try clear c11
        try clear c13
        try clear c15
        try clear c24
        try clear c24b0
        try clear c24b1
        try clear c25
        try clear c25b0
        try clear c25b1
        try clear p2
        obtain ⟨kq, x62_18, rfl, HA, HJ18, HO_11, HO_13, HB⟩ := hcut
        cases kq with
        | zero => exact absurd HA.out (by simp [testamurlaw42_DevicesStale.j3])
        | succ kj18 =>
         have H := HA.out
         clear HA
         simp only [testamurlaw42_DevicesStale.j3] at H
         have HC26 := Aside0.mk H
         clear H
         go_upto_if 62 with (fail)
         go_cut [] (fun wc => ∃ (kq : Nat), Aside0 (testamurlaw42_DevicesStale.j4 kq l0 l1 a3 t491 t495 = some r) ∧ Aside0 (kq ≤ kj18) ∧ Aside0 (Kd.R k47 47 wc w.heap.size (fun k_ => some k_ ≠ (v497 : Value).ownBlock) v493 t491) ∧ Aside0 (Kd.R k47 47 wc w.heap.size (fun k_ => some k_ ≠ (v493 : Value).ownBlock) v497 t495) ∧ Aside0 (Below w.heap.size w wc))
         case first =>
          have H := HC26.out
          clear HC26
          by_cases c27 : x62_18 = true
          ·subst c27
           have H1 : (some true) = some r := by rw [if_pos rfl] at H; exact H
           clear H
           have H := H1
           clear H1
           obtain rfl := Option.some.inj H
           go_wp2
           go_ret
           exact ⟨by first | rfl | (simp [errW_none, errW_some] <;> rfl) | (simp [*, errW_none, errW_some] <;> rfl), by repeat (first | (with_reducible first | exact HB.out | apply below_alloc | apply pw_below_drewN | apply below_drew1) | exact HB.out)⟩
          ·replace c27 := Bool.eq_false_iff.mpr c27
           subst c27
           have H1 : (testamurlaw42_DevicesStale.j4 kj18 l0 l1 a3 t491 t495) = some r := by rw [if_neg (show ¬ (false = true) by decide)] at H; exact H
           clear H
           have H := H1
           clear H1
           have H' := Aside0.mk H
           clear H
           go_wp2
           go_meet
           case rel => exact ⟨_, H', ⟨by have := HJ5.out; have := HJ8.out; have := HJ13.out; have := HJ18.out; first | omega | exact Nat.le_refl _⟩, ⟨by (with_reducible repeat (first | apply Kd.R_alloc | apply Kd.R_drewN | apply Kd.R_drew)); exact HO_11.out⟩, ⟨by (with_reducible repeat (first | apply Kd.R_alloc | apply Kd.R_drewN | apply Kd.R_drew)); exact HO_13.out⟩, ⟨by repeat (first | (with_reducible first | exact HB.out | apply below_alloc | apply pw_below_drewN | apply below_drew1) | exact HB.out)⟩⟩
         case rest =>
          clear HC26
          try clear c1
          try clear c2
          try clear p2
          try clear c3
          try clear c8
          try clear c10
          try clear c11
          try clear c13
          try clear c15
          try clear c24
          try clear c24b0
          try clear c24b1
          try clear c25
          try clear c25b0
          try clear c25b1
          try clear c26
          try clear c27
          try clear p2
          obtain ⟨kq, HA, HJ25, HO_11, HO_13, HB⟩ := hcut
          cases kq with
          | zero => exact absurd HA.out (by simp [testamurlaw42_DevicesStale.j4])
          | succ kj25 =>
           have H := HA.out
           clear HA
           simp only [testamurlaw42_DevicesStale.j4] at H
           have H' := Aside0.mk H
           clear H
           obtain ⟨Ao28, co28, eo28⟩ := Kd.R_slice HO_11.out
           subst eo28
           go_wp2
           go_loopg [65] kj25 (fun kq v65 w' => ∃ (x65_6 : Int), v65 = .int .i64 x65_6 ∧ Aside0 (testamurlaw42_DevicesStale.l0 kq l0 l1 a3 t491 t495 (t491.length : Int) x65_6 = some r) ∧ Aside0 (kq ≤ kj25) ∧ Aside0 (Kd.R k47 47 w' w.heap.size (fun k_ => some k_ ≠ (v497 : Value).ownBlock) (.slice Ao28 t491.length co28) t491) ∧ Aside0 (Kd.R k47 47 w' w.heap.size (fun k_ => some k_ ≠ ((.slice Ao28 t491.length co28) : Value).ownBlock) v497 t495) ∧ Aside0 (Below w.heap.size w w'))
           case atStart => exact ⟨(0), (by first | rfl | (simp; done) | (simp [*]; done)), H', ⟨Nat.le_refl _⟩, ⟨by (with_reducible repeat (first | apply Kd.R_alloc | apply Kd.R_drewN | apply Kd.R_drew)); exact HO_11.out⟩, ⟨by (with_reducible repeat (first | apply Kd.R_alloc | apply Kd.R_drewN | apply Kd.R_drew)); exact HO_13.out⟩, ⟨by repeat (first | (with_reducible first | exact HB.out | apply below_alloc | apply pw_below_drewN | apply below_drew1) | exact HB.out)⟩⟩
           case round =>
            clear H'
            try clear c1
            try clear c2
            try clear p2
            try clear c3
            try clear c8
            try clear c10
            try clear c11
            try clear c13
            try clear c15
            try clear c24
            try clear c24b0
            try clear c24b1
            try clear c25
            try clear c25b0
            try clear c25b1
            try clear c26
            try clear c27
            try clear p2
            obtain ⟨x65_6, rfl, HA, HK6, HO_11, HO_13, HB⟩ := hrel
            cases gk with
            | zero => exact absurd HA.out (by simp [testamurlaw42_DevicesStale.l0])
            | succ k6 =>
             have H := HA.out
             clear HA
             simp only [testamurlaw42_DevicesStale.l0] at H
             have HC29 := Aside0.mk H
             clear H
             go_upto_if 66 with (fail)
             go_cut [] (fun wc => ∃ (kq : Nat), Aside0 (testamurlaw42_DevicesStale.j6 kq l0 l1 a3 t491 t495 (t491.length : Int) x65_6 = some r) ∧ Aside0 (kq ≤ k6) ∧ Aside0 (Kd.R k47 47 wc w.heap.size (fun k_ => some k_ ≠ (v497 : Value).ownBlock) (.slice Ao28 t491.length co28) t491) ∧ Aside0 (Kd.R k47 47 wc w.heap.size (fun k_ => some k_ ≠ ((.slice Ao28 t491.length co28) : Value).ownBlock) v497 t495) ∧ Aside0 (Below w.heap.size w wc))
             case first =>
              have H := HC29.out
              clear HC29
              by_cases c30 : x65_6 < (t491.length : Int)
              ·rw [if_pos c30] at H
               have c30b0 : decide (x65_6 < (t491.length : Int)) = true := decide_eq_true c30
               clear c30
               (first | rw [c30b0] | (simp only [i64_w, i32_w]; rw [c30b0]) | skip)
               have H' := Aside0.mk H
               clear H
               go_wp2
               go_meet
               case rel => exact ⟨_, H', ⟨by have := HJ5.out; have := HJ8.out; have := HJ13.out; have := HJ18.out; have := HJ25.out; have := HK6.out; first | omega | exact Nat.le_refl _⟩, ⟨by (with_reducible repeat (first | apply Kd.R_alloc | apply Kd.R_drewN | apply Kd.R_drew)); exact HO_11.out⟩, ⟨by (with_reducible repeat (first | apply Kd.R_alloc | apply Kd.R_drewN | apply Kd.R_drew)); exact HO_13.out⟩, ⟨by repeat (first | (with_reducible first | exact HB.out | apply below_alloc | apply pw_below_drewN | apply below_drew1) | exact HB.out)⟩⟩
              ·rw [if_neg c30] at H
               have c30b0 : decide (x65_6 < (t491.length : Int)) = false := decide_eq_false c30
               clear c30
               (first | rw [c30b0] | (simp only [i64_w, i32_w]; rw [c30b0]) | skip)
               obtain rfl := Option.some.inj H
               go_wp2
               go_ret
               exact ⟨by first | rfl | (simp [errW_none, errW_some] <;> rfl) | (simp [*, errW_none, errW_some] <;> rfl), by repeat (first | (with_reducible first | exact HB.out | apply below_alloc | apply pw_below_drewN | apply below_drew1) | exact HB.out)⟩
             case rest =>
              clear HC29
              try clear c1
              try clear c2
              try clear p2
              try clear c3
              try clear c8
              try clear c10
              try clear c11
              try clear c13
              try clear c15
              try clear c24
              try clear c24b0
              try clear c24b1
              try clear c25
              try clear c25b0
              try clear c25b1
              try clear c26
              try clear c27
              try clear c30
              try clear c30b0
              try clear p2
              obtain ⟨kq, HA, HJ28, HO_11, HO_13, HB⟩ := hcut
              cases kq with
              | zero => exact absurd HA.out (by simp [testamurlaw42_DevicesStale.j6])
              | succ kj28 =>
               have H := HA.out
               clear HA
               simp only [testamurlaw42_DevicesStale.j6] at H
               have H' := Aside0.mk H
               clear H
               go_wp2
               go_loopg [16, 70] kj28 (fun kq v16 v70 w' => ∃ (x16_8 : Bool) (x70_8 : Int), v16 = .bool x16_8 ∧ v70 = .int .i64 x70_8 ∧ Aside0 (testamurlaw42_DevicesStale.l1 kq l0 l1 a3 t491 t495 x65_6 x16_8 (t491.length : Int) x65_6 l1 (l1.length : Int) x70_8 = some r) ∧ Aside0 (kq ≤ kj28) ∧ Aside0 (Kd.R k47 47 w' w.heap.size (fun k_ => some k_ ≠ (v497 : Value).ownBlock) (.slice Ao28 t491.length co28) t491) ∧ Aside0 (Kd.R k47 47 w' w.heap.size (fun k_ => some k_ ≠ ((.slice Ao28 t491.length co28) : Value).ownBlock) v497 t495) ∧ Aside0 (Below w.heap.size w w'))
               case atStart => exact ⟨(false), (0), (by first | rfl | (simp; done) | (simp [*]; done)), (by first | rfl | (simp; done) | (simp [*]; done)), H', ⟨Nat.le_refl _⟩, ⟨by (with_reducible repeat (first | apply Kd.R_alloc | apply Kd.R_drewN | apply Kd.R_drew)); exact HO_11.out⟩, ⟨by (with_reducible repeat (first | apply Kd.R_alloc | apply Kd.R_drewN | apply Kd.R_drew)); exact HO_13.out⟩, ⟨by repeat (first | (with_reducible first | exact HB.out | apply below_alloc | apply pw_below_drewN | apply below_drew1) | exact HB.out)⟩⟩
               case round =>
                clear H'
                try clear c1
                try clear c2
                try clear p2
                try clear c3
                try clear c8
                try clear c10
                try clear c11
                try clear c13
                try clear c15
                try clear c24
                try clear c24b0
                try clear c24b1
                try clear c25
                try clear c25b0
                try clear c25b1
                try clear c26
                try clear c27
                try clear c30
                try clear c30b0
                try clear p2
                obtain ⟨x16_8, x70_8, rfl, rfl, HA, HK8, HO_11, HO_13, HB⟩ := hrel
                cases gk with
                | zero => exact absurd HA.out (by simp [testamurlaw42_DevicesStale.l1])
                | succ k8 =>
                 have H := HA.out
                 clear HA
                 simp only [testamurlaw42_DevicesStale.l1] at H
                 have HC31 := Aside0.mk H
                 clear H
                 go_upto_if 71 with (fail)
                 go_cut [] (fun wc => ∃ (kq : Nat), Aside0 (testamurlaw42_DevicesStale.j8 kq l0 l1 a3 t491 t495 x65_6 x16_8 (t491.length : Int) x65_6 l1 (l1.length : Int) x70_8 = some r) ∧ Aside0 (kq ≤ k8) ∧ Aside0 (Kd.R k47 47 wc w.heap.size (fun k_ => some k_ ≠ (v497 : Value).ownBlock) (.slice Ao28 t491.length co28) t491) ∧ Aside0 (Kd.R k47 47 wc w.heap.size (fun k_ => some k_ ≠ ((.slice Ao28 t491.length co28) : Value).ownBlock) v497 t495) ∧ Aside0 (Below w.heap.size w wc))
                 case first =>
                  have H := HC31.out
                  clear HC31
                  by_cases c32 : x70_8 < (l1.length : Int)
                  ·rw [if_pos c32] at H
                   have c32b0 : decide (x70_8 < (l1.length : Int)) = true := decide_eq_true c32
                   clear c32
                   (first | rw [c32b0] | (simp only [i64_w, i32_w]; rw [c32b0]) | skip)
                   have H' := Aside0.mk H
                   clear H
                   go_wp2
                   go_meet
                   case rel => exact ⟨_, H', ⟨by have := HJ5.out; have := HJ8.out; have := HJ13.out; have := HJ18.out; have := HJ25.out; have := HK6.out; have := HJ28.out; have := HK8.out; first | omega | exact Nat.le_refl _⟩, ⟨by (with_reducible repeat (first | apply Kd.R_alloc | apply Kd.R_drewN | apply Kd.R_drew)); exact HO_11.out⟩, ⟨by (with_reducible repeat (first | apply Kd.R_alloc | apply Kd.R_drewN | apply Kd.R_drew)); exact HO_13.out⟩, ⟨by repeat (first | (with_reducible first | exact HB.out | apply below_alloc | apply pw_below_drewN | apply below_drew1) | exact HB.out)⟩⟩
                  ·rw [if_neg c32] at H
                   have c32b0 : decide (x70_8 < (l1.length : Int)) = false := decide_eq_false c32
                   clear c32
                   (first | rw [c32b0] | (simp only [i64_w, i32_w]; rw [c32b0]) | skip)
                   by_cases c33 : x16_8 = true
                   ·subst c33
                    have H1 : (testamurlaw42_DevicesStale.l0 k8 l0 l1 a3 t491 t495 (t491.length : Int) (wrap64 (x65_6 + 1))) = some r := by rw [if_pos rfl] at H; exact H
                    clear H
                    have H := H1
                    clear H1
                    have H' := Aside0.mk H
                    clear H
                    go_wp2
                    have n0_ := Aside0.mk (Kd.R_drew HO_11.out)
                    have n1_ := Aside0.mk (Kd.R_drew HO_13.out)
                    have n2_ := Aside0.mk (below_drew1 HB.out)
                    clear HO_11
                    clear HO_13
                    clear HB
                    have HO_11 := n0_
                    have HO_13 := n1_
                    have HB := n2_
                    clear n0_ n1_ n2_
                    refine start_ (n := 13) (S := fun w' => True) (ds := []) #[false, false, false, false, false, false, false, false, false, false, false, false, false] (by kernel_rfl) rfl rfl trivial (fun hHeld => ?_); refine with_tabW testamurlaw42_DevicesStale.tab20 testamurlaw42_DevicesStale.bits20 (fun HT_ HW_ => ?_)
                    generalize wr.drew = w34 at HO_11 HO_13 HB hHeld ⊢
                    refine pure_ (i := 0) (N := some 103) (v := ?_) (a' := ?_) #[true, false, false, false, false, false, false, false, false, false, false, false, false] rfl rfl (any_of HT_.out (by kernel_rfl)) (fun _ _ _ h => h) (Or.inl ⟨by rfl, ?_⟩) ?_ ?_
                    rotate_left
                    ·intro w'
                     go_simp
                     with_reducible rfl
                    rotate_left
                    ·simp only [Act.put, List.setIfInBounds_toArray, List.set_cons_zero, List.set_cons_succ, i64_w, i32_w]
                     rfl
                    refine pure_ (i := 1) (N := some 104) (v := ?_) (a' := ?_) #[true, true, false, false, false, false, false, false, false, false, false, false, false] rfl rfl (any_of HT_.out (by kernel_rfl)) (fun _ _ _ h => h) (Or.inl ⟨by rfl, ?_⟩) ?_ ?_
                    rotate_left
                    ·intro w'
                     go_simp
                     with_reducible rfl
                    rotate_left
                    ·simp only [Act.put, List.setIfInBounds_toArray, List.set_cons_zero, List.set_cons_succ, i64_w, i32_w]
                     rfl
                    refine pure_ (i := 2) (N := some 105) (v := ?_) (a' := ?_) #[true, true, true, false, false, false, false, false, false, false, false, false, false] rfl rfl (any_of HT_.out (by kernel_rfl)) (fun _ _ _ h => h) (Or.inl ⟨by rfl, ?_⟩) ?_ ?_
                    rotate_left
                    ·intro w'
                     go_simp
                     with_reducible rfl
                    rotate_left
                    ·simp only [Act.put, List.setIfInBounds_toArray, List.set_cons_zero, List.set_cons_succ, i64_w, i32_w]
                     rfl
                    refine pure_ (i := 3) (N := some 106) (v := undef) (a' := ?_) #[true, true, true, true, false, false, false, false, false, false, false, false, false] rfl rfl (any_of HT_.out (by kernel_rfl)) (fun _ _ _ h => h) (Or.inr ⟨by rfl, rfl⟩) ?_ ?_
                    rotate_left
                    ·simp only [Act.put, List.setIfInBounds_toArray, List.set_cons_zero, List.set_cons_succ, i64_w, i32_w]
                     rfl
                    refine pure_ (i := 4) (N := some 107) (v := undef) (a' := ?_) #[true, true, true, true, true, false, false, false, false, false, false, false, false] rfl rfl (any_of HT_.out (by kernel_rfl)) (fun _ _ _ h => h) (Or.inr ⟨by rfl, rfl⟩) ?_ ?_
                    rotate_left
                    ·simp only [Act.put, List.setIfInBounds_toArray, List.set_cons_zero, List.set_cons_succ, i64_w, i32_w]
                     rfl
                    refine pure_ (i := 5) (N := some 108) (v := undef) (a' := ?_) #[true, true, true, true, true, true, false, false, false, false, false, false, false] rfl rfl (any_of HT_.out (by kernel_rfl)) (fun _ _ _ h => h) (Or.inr ⟨by rfl, rfl⟩) ?_ ?_
                    rotate_left
                    ·simp only [Act.put, List.setIfInBounds_toArray, List.set_cons_zero, List.set_cons_succ, i64_w, i32_w]
                     rfl
                    refine pure_ (i := 6) (N := some 109) (v := undef) (a' := ?_) #[true, true, true, true, true, true, true, false, false, false, false, false, false] rfl rfl (any_of HT_.out (by kernel_rfl)) (fun _ _ _ h => h) (Or.inr ⟨by rfl, rfl⟩) ?_ ?_
                    rotate_left
                    ·simp only [Act.put, List.setIfInBounds_toArray, List.set_cons_zero, List.set_cons_succ, i64_w, i32_w]
                     rfl
                    refine pure_ (i := 7) (N := some 110) (v := undef) (a' := ?_) #[true, true, true, true, true, true, true, true, false, false, false, false, false] rfl rfl (any_of HT_.out (by kernel_rfl)) (fun _ _ _ h => h) (Or.inr ⟨by rfl, rfl⟩) ?_ ?_
                    rotate_left
                    ·simp only [Act.put, List.setIfInBounds_toArray, List.set_cons_zero, List.set_cons_succ, i64_w, i32_w]
                     rfl
                    refine pure_ (i := 8) (N := some 111) (v := undef) (a' := ?_) #[true, true, true, true, true, true, true, true, true, false, false, false, false] rfl rfl (any_of HT_.out (by kernel_rfl)) (fun _ _ _ h => h) (Or.inr ⟨by rfl, rfl⟩) ?_ ?_
                    rotate_left
                    ·simp only [Act.put, List.setIfInBounds_toArray, List.set_cons_zero, List.set_cons_succ, i64_w, i32_w]
                     rfl
                    refine pure_ (i := 9) (N := some 112) (v := undef) (a' := ?_) #[true, true, true, true, true, true, true, true, true, true, false, false, false] rfl rfl (any_of HT_.out (by kernel_rfl)) (fun _ _ _ h => h) (Or.inr ⟨by rfl, rfl⟩) ?_ ?_
                    rotate_left
                    ·simp only [Act.put, List.setIfInBounds_toArray, List.set_cons_zero, List.set_cons_succ, i64_w, i32_w]
                     rfl
                    refine pure_ (i := 10) (N := some 113) (v := undef) (a' := ?_) #[true, true, true, true, true, true, true, true, true, true, true, false, false] rfl rfl (any_of HT_.out (by kernel_rfl)) (fun _ _ _ h => h) (Or.inr ⟨by rfl, rfl⟩) ?_ ?_
                    rotate_left
                    ·simp only [Act.put, List.setIfInBounds_toArray, List.set_cons_zero, List.set_cons_succ, i64_w, i32_w]
                     rfl
                    refine pure_ (i := 11) (N := some 114) (v := undef) (a' := ?_) #[true, true, true, true, true, true, true, true, true, true, true, true, false] rfl rfl (any_of HT_.out (by kernel_rfl)) (fun _ _ _ h => h) (Or.inr ⟨by rfl, rfl⟩) ?_ ?_
                    rotate_left
                    ·simp only [Act.put, List.setIfInBounds_toArray, List.set_cons_zero, List.set_cons_succ, i64_w, i32_w]
                     rfl
                    refine pure_ (i := 12) (N := some 115) (v := ?_) (a' := ?_) #[true, true, true, true, true, true, true, true, true, true, true, true, true] rfl rfl (any_of HT_.out (by kernel_rfl)) (fun _ _ _ h => h) (Or.inl ⟨by rfl, ?_⟩) ?_ ?_
                    rotate_left
                    ·intro w'
                     go_simp
                     with_reducible rfl
                    rotate_left
                    ·simp only [Act.put, List.setIfInBounds_toArray, List.set_cons_zero, List.set_cons_succ, i64_w, i32_w]
                     rfl
                    refine done_ (done_of HT_.out (by kernel_rfl)) ?_
                    go_wp2
                    go_roundg k8
                    case measure => have := HJ5.out; have := HJ8.out; have := HJ13.out; have := HJ18.out; have := HJ25.out; have := HK6.out; have := HJ28.out; have := HK8.out; omega
                    case rel => exact ⟨(wrap64 (x65_6 + 1)), (by first | rfl | (simp; done) | (simp [*]; done)), H', ⟨by have := HJ5.out; have := HJ8.out; have := HJ13.out; have := HJ18.out; have := HJ25.out; have := HK6.out; have := HJ28.out; have := HK8.out; omega⟩, ⟨by (with_reducible repeat (first | apply Kd.R_alloc | apply Kd.R_drewN | apply Kd.R_drew)); exact HO_11.out⟩, ⟨by (with_reducible repeat (first | apply Kd.R_alloc | apply Kd.R_drewN | apply Kd.R_drew)); exact HO_13.out⟩, ⟨by repeat (first | (with_reducible first | exact HB.out | apply below_alloc | apply pw_below_drewN | apply below_drew1) | exact HB.out)⟩⟩
                   ·replace c33 := Bool.eq_false_iff.mpr c33
                    subst c33
                    have H1 : (if 0 ≤ x65_6 then (if x65_6 < (t495.length : Int) then (if x65_6 < (t491.length : Int) then (if (!(((rd_T47 t495 x65_6).f0) == ((rd_T47 t491 x65_6).f0)) || (!(((rd_T47 t495 x65_6).f1) == ((rd_T47 t491 x65_6).f1)) || (!(((rd_T47 t495 x65_6).f2) == ((rd_T47 t491 x65_6).f2)) || (!(((rd_T47 t495 x65_6).f3) == ((rd_T47 t491 x65_6).f3)))))) = true then (some false) else (testamurlaw42_DevicesStale.l0 k8 l0 l1 a3 t491 t495 (t491.length : Int) (wrap64 (x65_6 + 1)))) else (none)) else (none)) else (none)) = some r := by rw [if_neg (show ¬ (false = true) by decide)] at H; exact H
                    clear H
                    have H := H1
                    clear H1
                    by_cases c35 : 0 ≤ x65_6
                    ·rw [if_pos c35] at H
                     have c35b0 : decide (0 ≤ x65_6) = true := decide_eq_true c35
                     clear c35
                     by_cases c36 : x65_6 < (t495.length : Int)
                     ·rw [if_pos c36] at H
                      have c36b0 : decide (x65_6 < (t495.length : Int)) = true := decide_eq_true c36
                      clear c36
                      by_cases c37 : x65_6 < (t491.length : Int)
                      ·rw [if_pos c37] at H
                       have c37b0 : decide (x65_6 < (t491.length : Int)) = true := decide_eq_true c37
                       clear c37
                       by_cases c38 : (!(((rd_T47 t495 x65_6).f0) == ((rd_T47 t491 x65_6).f0)) || (!(((rd_T47 t495 x65_6).f1) == ((rd_T47 t491 x65_6).f1)) || (!(((rd_T47 t495 x65_6).f2) == ((rd_T47 t491 x65_6).f2)) || (!(((rd_T47 t495 x65_6).f3) == ((rd_T47 t491 x65_6).f3)))))) = true
                       ·rw [if_pos c38] at H
                        have c38b0 : (!(((rd_T47 t495 x65_6).f0) == ((rd_T47 t491 x65_6).f0)) || (!(((rd_T47 t495 x65_6).f1) == ((rd_T47 t491 x65_6).f1)) || (!(((rd_T47 t495 x65_6).f2) == ((rd_T47 t491 x65_6).f2)) || (!(((rd_T47 t495 x65_6).f3) == ((rd_T47 t491 x65_6).f3)))))) = true := c38
                        clear c38
                        obtain rfl := Option.some.inj H
                        go_wp2
                        have n0_ := Aside0.mk (Kd.R_drew HO_11.out)
                        have n1_ := Aside0.mk (Kd.R_drew HO_13.out)
                        have n2_ := Aside0.mk (below_drew1 HB.out)
                        clear HO_11
                        clear HO_13
                        clear HB
                        have HO_11 := n0_
                        have HO_13 := n1_
                        have HB := n2_
                        clear n0_ n1_ n2_
                        obtain ⟨Ao40, co40, eo40⟩ := Kd.R_slice HO_13.out
                        (first | subst eo40 | (injection eo40 with f1_ f2_ f3_; have f4_ := f1_.symm; have f5_ := f3_.symm; clear f1_ f2_ f3_; subst f4_; subst f5_))
                        have p501 : 0 ≤ (x65_6 : Int) := of_decide_eq_true (by first | (with_reducible assumption) | assumption)
                        have q501 : x65_6 < (t495.length : Int) := of_decide_eq_true (by first | (with_reducible assumption) | assumption)
                        obtain ⟨ad501, e501, hx501_0, hx501_1, hx501_2, hx501_3⟩ := at_T47 (Kd.R_reads' HO_13.out).2.2 x65_6 p501 q501
                        cases e501
                        replace p501 := eq_true p501
                        replace q501 := eq_true q501
                        have p503 : 0 ≤ (x65_6 : Int) := of_decide_eq_true (by first | (with_reducible assumption) | assumption)
                        have q503 : x65_6 < (t491.length : Int) := of_decide_eq_true (by first | (with_reducible assumption) | assumption)
                        obtain ⟨ad503, e503, hx503_0, hx503_1, hx503_2, hx503_3⟩ := at_T47 (Kd.R_reads' HO_11.out).2.2 x65_6 p503 q503
                        cases e503
                        replace p503 := eq_true p503
                        replace q503 := eq_true q503
                        refine start_ (n := 13) (S := fun w' => w'.cell? (ad501.add ((x65_6).toNat * 4)) = some (.int .i64 ((rd_T47 t495 x65_6).f0)) ∧ w'.cell? ⟨(ad501.add ((x65_6).toNat * 4)).block, (ad501.add ((x65_6).toNat * 4)).off + 1, none⟩ = some (.int .i64 ((rd_T47 t495 x65_6).f1)) ∧ w'.cell? ⟨(ad501.add ((x65_6).toNat * 4)).block, (ad501.add ((x65_6).toNat * 4)).off + 2, none⟩ = some (.int .i64 ((rd_T47 t495 x65_6).f2)) ∧ w'.cell? ⟨(ad501.add ((x65_6).toNat * 4)).block, (ad501.add ((x65_6).toNat * 4)).off + 3, none⟩ = some (.bool ((rd_T47 t495 x65_6).f3)) ∧ w'.cell? (ad503.add ((x65_6).toNat * 4)) = some (.int .i64 ((rd_T47 t491 x65_6).f0)) ∧ w'.cell? ⟨(ad503.add ((x65_6).toNat * 4)).block, (ad503.add ((x65_6).toNat * 4)).off + 1, none⟩ = some (.int .i64 ((rd_T47 t491 x65_6).f1)) ∧ w'.cell? ⟨(ad503.add ((x65_6).toNat * 4)).block, (ad503.add ((x65_6).toNat * 4)).off + 2, none⟩ = some (.int .i64 ((rd_T47 t491 x65_6).f2)) ∧ w'.cell? ⟨(ad503.add ((x65_6).toNat * 4)).block, (ad503.add ((x65_6).toNat * 4)).off + 3, none⟩ = some (.bool ((rd_T47 t491 x65_6).f3))) (ds := []) #[false, false, false, false, false, false, false, false, false, false, false, false, false] (by kernel_rfl) rfl rfl ⟨hx501_0, hx501_1, hx501_2, hx501_3, hx503_0, hx503_1, hx503_2, hx503_3⟩ (fun hHeld => ?_); refine with_tabW testamurlaw42_DevicesStale.tab20 testamurlaw42_DevicesStale.bits20 (fun HT_ HW_ => ?_)
                        generalize wr.drew = w39 at HO_11 HO_13 HB hx501_0 hx501_1 hx501_2 hx501_3 hx503_0 hx503_1 hx503_2 hx503_3 hHeld ⊢
                        refine pure_ (i := 0) (N := some 103) (v := ?_) (a' := ?_) #[true, false, false, false, false, false, false, false, false, false, false, false, false] rfl rfl (any_of HT_.out (by kernel_rfl)) (fun _ _ _ h => h) (Or.inl ⟨by rfl, ?_⟩) ?_ ?_
                        rotate_left
                        ·intro w'
                         go_simp
                         with_reducible rfl
                        rotate_left
                        ·simp only [Act.put, List.setIfInBounds_toArray, List.set_cons_zero, List.set_cons_succ, i64_w, i32_w]
                         rfl
                        refine pure_ (i := 1) (N := some 104) (v := ?_) (a' := ?_) #[true, true, false, false, false, false, false, false, false, false, false, false, false] rfl rfl (any_of HT_.out (by kernel_rfl)) (fun _ _ _ h => h) (Or.inl ⟨by rfl, ?_⟩) ?_ ?_
                        rotate_left
                        ·intro w'
                         go_simp
                         with_reducible rfl
                        rotate_left
                        ·simp only [Act.put, List.setIfInBounds_toArray, List.set_cons_zero, List.set_cons_succ, i64_w, i32_w]
                         rfl
                        refine pure_ (i := 2) (N := some 105) (v := ?_) (a' := ?_) #[true, true, true, false, false, false, false, false, false, false, false, false, false] rfl rfl (any_of HT_.out (by kernel_rfl)) (fun _ _ _ h => h) (Or.inl ⟨by rfl, ?_⟩) ?_ ?_
                        rotate_left
                        ·intro w'
                         go_simp
                         with_reducible rfl
                        rotate_left
                        ·simp only [Act.put, List.setIfInBounds_toArray, List.set_cons_zero, List.set_cons_succ, i64_w, i32_w]
                         rfl
                        refine pure_ (i := 3) (N := some 106) (v := ?_) (a' := ?_) #[true, true, true, true, false, false, false, false, false, false, false, false, false] rfl rfl (any_of HT_.out (by kernel_rfl)) (fun _ _ _ h => h) (Or.inl ⟨by rfl, ?_⟩) ?_ ?_
                        rotate_left
                        ·intro w'
                         go_simp
                         with_reducible rfl
                        rotate_left
                        ·simp only [Act.put, List.setIfInBounds_toArray, List.set_cons_zero, List.set_cons_succ, i64_w, i32_w]
                         rfl
                        refine pure_ (i := 4) (N := some 107) (v := ?_) (a' := ?_) #[true, true, true, true, true, false, false, false, false, false, false, false, false] rfl rfl (any_of HT_.out (by kernel_rfl)) (fun _ _ _ h => h) (Or.inl ⟨by rfl, ?_⟩) ?_ ?_
                        rotate_left
                        ·intro w'
                         go_simp
                         with_reducible rfl
                        rotate_left
                        ·simp only [Act.put, List.setIfInBounds_toArray, List.set_cons_zero, List.set_cons_succ, i64_w, i32_w]
                         rfl
                        refine pure_ (i := 5) (N := some 108) (v := ?_) (a' := ?_) #[true, true, true, true, true, true, false, false, false, false, false, false, false] rfl rfl (any_of HT_.out (by kernel_rfl)) (fun _ _ _ h => h) (Or.inl ⟨by rfl, ?_⟩) ?_ ?_
                        rotate_left
                        ·intro w'
                         go_simp
                         with_reducible rfl
                        rotate_left
                        ·simp only [Act.put, List.setIfInBounds_toArray, List.set_cons_zero, List.set_cons_succ, i64_w, i32_w]
                         rfl
                        refine pure_ (i := 7) (N := some 110) (v := ?_) (a' := ?_) #[true, true, true, true, true, true, false, true, false, false, false, false, false] rfl rfl (any_of HT_.out (by kernel_rfl)) (fun _ _ _ h => h) (Or.inl ⟨by rfl, ?_⟩) ?_ ?_
                        rotate_left
                        ·intro w'
                         go_simp
                         with_reducible rfl
                        rotate_left
                        ·simp only [Act.put, List.setIfInBounds_toArray, List.set_cons_zero, List.set_cons_succ, i64_w, i32_w]
                         rfl
                        refine pure_ (i := 8) (N := some 111) (v := ?_) (a' := ?_) #[true, true, true, true, true, true, false, true, true, false, false, false, false] rfl rfl (any_of HT_.out (by kernel_rfl)) (fun _ _ _ h => h) (Or.inl ⟨by rfl, ?_⟩) ?_ ?_
                        rotate_left
                        ·intro w'
                         go_simp
                         with_reducible rfl
                        rotate_left
                        ·simp only [Act.put, List.setIfInBounds_toArray, List.set_cons_zero, List.set_cons_succ, i64_w, i32_w]
                         rfl
                        refine pure_ (i := 9) (N := some 112) (v := ?_) (a' := ?_) #[true, true, true, true, true, true, false, true, true, true, false, false, false] rfl rfl (any_of HT_.out (by kernel_rfl)) (fun _ _ _ h => h) (Or.inl ⟨by rfl, ?_⟩) ?_ ?_
                        rotate_left
                        ·intro w'
                         go_simp
                         with_reducible rfl
                        rotate_left
                        ·simp only [Act.put, List.setIfInBounds_toArray, List.set_cons_zero, List.set_cons_succ, i64_w, i32_w]
                         rfl
                        refine take_ (i := 6) (N := some 109) (v := ?_) (a' := ?_) #[true, true, true, true, true, true, true, true, true, true, false, false, false] rfl rfl (take_ofW HT_.out HW_.out (by kernel_rfl)) (fun _ _ _ h => h) (Or.inl ⟨by rfl, ?_⟩) hHeld ?_ ?_
                        rotate_left
                        ·rintro w' ⟨s0, s1, s2, s3, s4, s5, s6, s7⟩
                         go_simp
                         with_reducible rfl
                        rotate_left
                        ·simp only [Act.put, List.setIfInBounds_toArray, List.set_cons_zero, List.set_cons_succ, i64_w, i32_w]
                         rfl
                        refine take_ (i := 10) (N := some 113) (v := ?_) (a' := ?_) #[true, true, true, true, true, true, true, true, true, true, true, false, false] rfl rfl (take_ofW HT_.out HW_.out (by kernel_rfl)) (fun _ _ _ h => h) (Or.inl ⟨by rfl, ?_⟩) hHeld ?_ ?_
                        rotate_left
                        ·rintro w' ⟨s0, s1, s2, s3, s4, s5, s6, s7⟩
                         go_simp
                         with_reducible rfl
                        rotate_left
                        ·simp only [Act.put, List.setIfInBounds_toArray, List.set_cons_zero, List.set_cons_succ, i64_w, i32_w]
                         rfl
                        refine pure_ (i := 11) (N := some 114) (v := ?_) (a' := ?_) #[true, true, true, true, true, true, true, true, true, true, true, true, false] rfl rfl (any_of HT_.out (by kernel_rfl)) (fun _ _ _ h => h) (Or.inl ⟨by rfl, ?_⟩) ?_ ?_
                        rotate_left
                        ·intro w'
                         go_simp
                         with_reducible rfl
                        rotate_left
                        ·simp only [Act.put, List.setIfInBounds_toArray, List.set_cons_zero, List.set_cons_succ, i64_w, i32_w]
                         rfl
                        refine pure_ (i := 12) (N := some 115) (v := ?_) (a' := ?_) #[true, true, true, true, true, true, true, true, true, true, true, true, true] rfl rfl (any_of HT_.out (by kernel_rfl)) (fun _ _ _ h => h) (Or.inl ⟨by rfl, ?_⟩) ?_ ?_
                        rotate_left
                        ·intro w'
                         go_simp
                         with_reducible rfl
                        rotate_left
                        ·simp only [Act.put, List.setIfInBounds_toArray, List.set_cons_zero, List.set_cons_succ, i64_w, i32_w]
                         rfl
                        refine done_ (done_of HT_.out (by kernel_rfl)) ?_
                        go_wp2
                        go_ret
                        exact ⟨by first | rfl | (simp [errW_none, errW_some] <;> rfl) | (simp [*, errW_none, errW_some] <;> rfl), by repeat (first | (with_reducible first | exact HB.out | apply below_alloc | apply pw_below_drewN | apply below_drew1) | exact HB.out)⟩
                       ·rw [if_neg c38] at H
                        have c38b0 : (!(((rd_T47 t495 x65_6).f0) == ((rd_T47 t491 x65_6).f0)) || (!(((rd_T47 t495 x65_6).f1) == ((rd_T47 t491 x65_6).f1)) || (!(((rd_T47 t495 x65_6).f2) == ((rd_T47 t491 x65_6).f2)) || (!(((rd_T47 t495 x65_6).f3) == ((rd_T47 t491 x65_6).f3)))))) = false := by simpa using c38
                        clear c38
                        have H' := Aside0.mk H
                        clear H
                        go_wp2
                        have n0_ := Aside0.mk (Kd.R_drew HO_11.out)
                        have n1_ := Aside0.mk (Kd.R_drew HO_13.out)
                        have n2_ := Aside0.mk (below_drew1 HB.out)
                        clear HO_11
                        clear HO_13
                        clear HB
                        have HO_11 := n0_
                        have HO_13 := n1_
                        have HB := n2_
                        clear n0_ n1_ n2_
                        obtain ⟨Ao42, co42, eo42⟩ := Kd.R_slice HO_13.out
                        (first | subst eo42 | (injection eo42 with f1_ f2_ f3_; have f4_ := f1_.symm; have f5_ := f3_.symm; clear f1_ f2_ f3_; subst f4_; subst f5_))
                        have p501 : 0 ≤ (x65_6 : Int) := of_decide_eq_true (by first | (with_reducible assumption) | assumption)
                        have q501 : x65_6 < (t495.length : Int) := of_decide_eq_true (by first | (with_reducible assumption) | assumption)
                        obtain ⟨ad501, e501, hx501_0, hx501_1, hx501_2, hx501_3⟩ := at_T47 (Kd.R_reads' HO_13.out).2.2 x65_6 p501 q501
                        cases e501
                        replace p501 := eq_true p501
                        replace q501 := eq_true q501
                        have p503 : 0 ≤ (x65_6 : Int) := of_decide_eq_true (by first | (with_reducible assumption) | assumption)
                        have q503 : x65_6 < (t491.length : Int) := of_decide_eq_true (by first | (with_reducible assumption) | assumption)
                        obtain ⟨ad503, e503, hx503_0, hx503_1, hx503_2, hx503_3⟩ := at_T47 (Kd.R_reads' HO_11.out).2.2 x65_6 p503 q503
                        cases e503
                        replace p503 := eq_true p503
                        replace q503 := eq_true q503
                        refine start_ (n := 13) (S := fun w' => w'.cell? (ad501.add ((x65_6).toNat * 4)) = some (.int .i64 ((rd_T47 t495 x65_6).f0)) ∧ w'.cell? ⟨(ad501.add ((x65_6).toNat * 4)).block, (ad501.add ((x65_6).toNat * 4)).off + 1, none⟩ = some (.int .i64 ((rd_T47 t495 x65_6).f1)) ∧ w'.cell? ⟨(ad501.add ((x65_6).toNat * 4)).block, (ad501.add ((x65_6).toNat * 4)).off + 2, none⟩ = some (.int .i64 ((rd_T47 t495 x65_6).f2)) ∧ w'.cell? ⟨(ad501.add ((x65_6).toNat * 4)).block, (ad501.add ((x65_6).toNat * 4)).off + 3, none⟩ = some (.bool ((rd_T47 t495 x65_6).f3)) ∧ w'.cell? (ad503.add ((x65_6).toNat * 4)) = some (.int .i64 ((rd_T47 t491 x65_6).f0)) ∧ w'.cell? ⟨(ad503.add ((x65_6).toNat * 4)).block, (ad503.add ((x65_6).toNat * 4)).off + 1, none⟩ = some (.int .i64 ((rd_T47 t491 x65_6).f1)) ∧ w'.cell? ⟨(ad503.add ((x65_6).toNat * 4)).block, (ad503.add ((x65_6).toNat * 4)).off + 2, none⟩ = some (.int .i64 ((rd_T47 t491 x65_6).f2)) ∧ w'.cell? ⟨(ad503.add ((x65_6).toNat * 4)).block, (ad503.add ((x65_6).toNat * 4)).off + 3, none⟩ = some (.bool ((rd_T47 t491 x65_6).f3))) (ds := []) #[false, false, false, false, false, false, false, false, false, false, false, false, false] (by kernel_rfl) rfl rfl ⟨hx501_0, hx501_1, hx501_2, hx501_3, hx503_0, hx503_1, hx503_2, hx503_3⟩ (fun hHeld => ?_); refine with_tabW testamurlaw42_DevicesStale.tab20 testamurlaw42_DevicesStale.bits20 (fun HT_ HW_ => ?_)
                        generalize wr.drew = w41 at HO_11 HO_13 HB hx501_0 hx501_1 hx501_2 hx501_3 hx503_0 hx503_1 hx503_2 hx503_3 hHeld ⊢
                        refine pure_ (i := 0) (N := some 103) (v := ?_) (a' := ?_) #[true, false, false, false, false, false, false, false, false, false, false, false, false] rfl rfl (any_of HT_.out (by kernel_rfl)) (fun _ _ _ h => h) (Or.inl ⟨by rfl, ?_⟩) ?_ ?_
                        rotate_left
                        ·intro w'
                         go_simp
                         with_reducible rfl
                        rotate_left
                        ·simp only [Act.put, List.setIfInBounds_toArray, List.set_cons_zero, List.set_cons_succ, i64_w, i32_w]
                         rfl
                        refine pure_ (i := 1) (N := some 104) (v := ?_) (a' := ?_) #[true, true, false, false, false, false, false, false, false, false, false, false, false] rfl rfl (any_of HT_.out (by kernel_rfl)) (fun _ _ _ h => h) (Or.inl ⟨by rfl, ?_⟩) ?_ ?_
                        rotate_left
                        ·intro w'
                         go_simp
                         with_reducible rfl
                        rotate_left
                        ·simp only [Act.put, List.setIfInBounds_toArray, List.set_cons_zero, List.set_cons_succ, i64_w, i32_w]
                         rfl
                        refine pure_ (i := 2) (N := some 105) (v := ?_) (a' := ?_) #[true, true, true, false, false, false, false, false, false, false, false, false, false] rfl rfl (any_of HT_.out (by kernel_rfl)) (fun _ _ _ h => h) (Or.inl ⟨by rfl, ?_⟩) ?_ ?_
                        rotate_left
                        ·intro w'
                         go_simp
                         with_reducible rfl
                        rotate_left
                        ·simp only [Act.put, List.setIfInBounds_toArray, List.set_cons_zero, List.set_cons_succ, i64_w, i32_w]
                         rfl
                        refine pure_ (i := 3) (N := some 106) (v := ?_) (a' := ?_) #[true, true, true, true, false, false, false, false, false, false, false, false, false] rfl rfl (any_of HT_.out (by kernel_rfl)) (fun _ _ _ h => h) (Or.inl ⟨by rfl, ?_⟩) ?_ ?_
                        rotate_left
                        ·intro w'
                         go_simp
                         with_reducible rfl
                        rotate_left
                        ·simp only [Act.put, List.setIfInBounds_toArray, List.set_cons_zero, List.set_cons_succ, i64_w, i32_w]
                         rfl
                        refine pure_ (i := 4) (N := some 107) (v := ?_) (a' := ?_) #[true, true, true, true, true, false, false, false, false, false, false, false, false] rfl rfl (any_of HT_.out (by kernel_rfl)) (fun _ _ _ h => h) (Or.inl ⟨by rfl, ?_⟩) ?_ ?_
                        rotate_left
                        ·intro w'
                         go_simp
                         with_reducible rfl
                        rotate_left
                        ·simp only [Act.put, List.setIfInBounds_toArray, List.set_cons_zero, List.set_cons_succ, i64_w, i32_w]
                         rfl
                        refine pure_ (i := 5) (N := some 108) (v := ?_) (a' := ?_) #[true, true, true, true, true, true, false, false, false, false, false, false, false] rfl rfl (any_of HT_.out (by kernel_rfl)) (fun _ _ _ h => h) (Or.inl ⟨by rfl, ?_⟩) ?_ ?_
                        rotate_left
                        ·intro w'
                         go_simp
                         with_reducible rfl
                        rotate_left
                        ·simp only [Act.put, List.setIfInBounds_toArray, List.set_cons_zero, List.set_cons_succ, i64_w, i32_w]
                         rfl
                        refine pure_ (i := 7) (N := some 110) (v := ?_) (a' := ?_) #[true, true, true, true, true, true, false, true, false, false, false, false, false] rfl rfl (any_of HT_.out (by kernel_rfl)) (fun _ _ _ h => h) (Or.inl ⟨by rfl, ?_⟩) ?_ ?_
                        rotate_left
                        ·intro w'
                         go_simp
                         with_reducible rfl
                        rotate_left
                        ·simp only [Act.put, List.setIfInBounds_toArray, List.set_cons_zero, List.set_cons_succ, i64_w, i32_w]
                         rfl
                        refine pure_ (i := 8) (N := some 111) (v := ?_) (a' := ?_) #[true, true, true, true, true, true, false, true, true, false, false, false, false] rfl rfl (any_of HT_.out (by kernel_rfl)) (fun _ _ _ h => h) (Or.inl ⟨by rfl, ?_⟩) ?_ ?_
                        rotate_left
                        ·intro w'
                         go_simp
                         with_reducible rfl
                        rotate_left
                        ·simp only [Act.put, List.setIfInBounds_toArray, List.set_cons_zero, List.set_cons_succ, i64_w, i32_w]
                         rfl
                        refine pure_ (i := 9) (N := some 112) (v := ?_) (a' := ?_) #[true, true, true, true, true, true, false, true, true, true, false, false, false] rfl rfl (any_of HT_.out (by kernel_rfl)) (fun _ _ _ h => h) (Or.inl ⟨by rfl, ?_⟩) ?_ ?_
                        rotate_left
                        ·intro w'
                         go_simp
                         with_reducible rfl
                        rotate_left
                        ·simp only [Act.put, List.setIfInBounds_toArray, List.set_cons_zero, List.set_cons_succ, i64_w, i32_w]
                         rfl
                        refine take_ (i := 6) (N := some 109) (v := ?_) (a' := ?_) #[true, true, true, true, true, true, true, true, true, true, false, false, false] rfl rfl (take_ofW HT_.out HW_.out (by kernel_rfl)) (fun _ _ _ h => h) (Or.inl ⟨by rfl, ?_⟩) hHeld ?_ ?_
                        rotate_left
                        ·rintro w' ⟨s0, s1, s2, s3, s4, s5, s6, s7⟩
                         go_simp
                         with_reducible rfl
                        rotate_left
                        ·simp only [Act.put, List.setIfInBounds_toArray, List.set_cons_zero, List.set_cons_succ, i64_w, i32_w]
                         rfl
                        refine take_ (i := 10) (N := some 113) (v := ?_) (a' := ?_) #[true, true, true, true, true, true, true, true, true, true, true, false, false] rfl rfl (take_ofW HT_.out HW_.out (by kernel_rfl)) (fun _ _ _ h => h) (Or.inl ⟨by rfl, ?_⟩) hHeld ?_ ?_
                        rotate_left
                        ·rintro w' ⟨s0, s1, s2, s3, s4, s5, s6, s7⟩
                         go_simp
                         with_reducible rfl
                        rotate_left
                        ·simp only [Act.put, List.setIfInBounds_toArray, List.set_cons_zero, List.set_cons_succ, i64_w, i32_w]
                         rfl
                        refine pure_ (i := 11) (N := some 114) (v := ?_) (a' := ?_) #[true, true, true, true, true, true, true, true, true, true, true, true, false] rfl rfl (any_of HT_.out (by kernel_rfl)) (fun _ _ _ h => h) (Or.inl ⟨by rfl, ?_⟩) ?_ ?_
                        rotate_left
                        ·intro w'
                         go_simp
                         with_reducible rfl
                        rotate_left
                        ·simp only [Act.put, List.setIfInBounds_toArray, List.set_cons_zero, List.set_cons_succ, i64_w, i32_w]
                         rfl
                        refine pure_ (i := 12) (N := some 115) (v := ?_) (a' := ?_) #[true, true, true, true, true, true, true, true, true, true, true, true, true] rfl rfl (any_of HT_.out (by kernel_rfl)) (fun _ _ _ h => h) (Or.inl ⟨by rfl, ?_⟩) ?_ ?_
                        rotate_left
                        ·intro w'
                         go_simp
                         with_reducible rfl
                        rotate_left
                        ·simp only [Act.put, List.setIfInBounds_toArray, List.set_cons_zero, List.set_cons_succ, i64_w, i32_w]
                         rfl
                        refine done_ (done_of HT_.out (by kernel_rfl)) ?_
                        go_wp2
                        go_roundg k8
                        case measure => have := HJ5.out; have := HJ8.out; have := HJ13.out; have := HJ18.out; have := HJ25.out; have := HK6.out; have := HJ28.out; have := HK8.out; omega
                        case rel => exact ⟨(wrap64 (x65_6 + 1)), (by first | rfl | (simp; done) | (simp [*]; done)), H', ⟨by have := HJ5.out; have := HJ8.out; have := HJ13.out; have := HJ18.out; have := HJ25.out; have := HK6.out; have := HJ28.out; have := HK8.out; omega⟩, ⟨by (with_reducible repeat (first | apply Kd.R_alloc | apply Kd.R_drewN | apply Kd.R_drew)); exact HO_11.out⟩, ⟨by (with_reducible repeat (first | apply Kd.R_alloc | apply Kd.R_drewN | apply Kd.R_drew)); exact HO_13.out⟩, ⟨by repeat (first | (with_reducible first | exact HB.out | apply below_alloc | apply pw_below_drewN | apply below_drew1) | exact HB.out)⟩⟩
                      ·rw [if_neg c37] at H
                       exact absurd H (by simp)
                     ·rw [if_neg c36] at H
                      exact absurd H (by simp)
                    ·rw [if_neg c35] at H
                     exact absurd H (by simp)
                 case rest =>
                  clear HC31
                  try clear c1
                  try clear c2
                  try clear p2
                  try clear c3
                  try clear p5
                  try clear q5
                  try clear hx5
                  try clear p6
                  try clear c8
                  try clear c10
                  try clear c11
                  try clear c13
                  try clear c15
                  try clear c24
                  try clear c24b0
                  try clear c24b1
                  try clear c25
                  try clear c25b0
                  try clear c25b1
                  try clear c26
                  try clear c27
                  try clear c30
                  try clear c30b0
                  try clear c32
                  try clear c32b0
                  try clear c33
                  try clear c35
                  try clear c35b0
                  try clear c36
                  try clear c36b0
                  try clear c37
                  try clear c37b0
                  try clear c38
                  try clear c38b0
                  try clear hx501_0
                  try clear hx501_1
                  try clear hx501_2
                  try clear hx501_3
                  try clear hx503_0
                  try clear hx503_1
                  try clear hx503_2
                  try clear hx503_3
                  try clear p2
                  try clear p501
                  try clear p503
                  try clear q501
                  try clear q503
                  obtain ⟨kq, HA, HJ30, HO_11, HO_13, HB⟩ := hcut
                  cases kq with
                  | zero => exact absurd HA.out (by simp [testamurlaw42_DevicesStale.j8])
                  | succ kj30 =>
                   have H := HA.out
                   clear HA
                   simp only [testamurlaw42_DevicesStale.j8] at H
                   by_cases c43 : 0 ≤ x70_8
                   ·rw [if_pos c43] at H
                    have c43b0 : decide (0 ≤ x70_8) = true := decide_eq_true c43
                    clear c43
                    by_cases c44 : x70_8 < (l1.length : Int)
                    ·rw [if_pos c44] at H
                     have c44b0 : decide (x70_8 < (l1.length : Int)) = true := decide_eq_true c44
                     clear c44
                     by_cases c45 : ((rd_T40 l1 x70_8).f3) = x65_6
                     ·rw [if_pos c45] at H
                      have c45b0 : (((rd_T40 l1 x70_8).f3) == x65_6) = true := beq_iff_eq.mpr c45
                      have c45b1 : (((rd_T40 l1 x70_8).f3) != x65_6) = false := bne_eq_false_iff_eq.mpr c45
                      clear c45
                      replace H := Option.bind_eq_some_iff.mp H
                      obtain ⟨t508, A460, H⟩ := H
                      replace H : (if t508 = true then (testamurlaw42_DevicesStale.l1 kj30 l0 l1 a3 t491 t495 x65_6 x16_8 (t491.length : Int) x65_6 l1 (l1.length : Int) (wrap64 (x70_8 + 1))) else (if 0 ≤ x65_6 then (if x65_6 < (t491.length : Int) then (if ((rd_T40 l1 x70_8).f0) = ((rd_T47 t491 x65_6).f1) then (testamurlaw42_DevicesStale.l1 kj30 l0 l1 a3 t491 t495 x65_6 true (t491.length : Int) x65_6 l1 (l1.length : Int) (wrap64 (x70_8 + 1))) else ((testamurlaw42_had.f kj30 l0 x65_6 a3 ((rd_T40 l1 x70_8).f0)).bind fun t512 => (if t512 = true then (testamurlaw42_DevicesStale.l1 kj30 l0 l1 a3 t491 t495 x65_6 true (t491.length : Int) x65_6 l1 (l1.length : Int) (wrap64 (x70_8 + 1))) else (testamurlaw42_DevicesStale.l1 kj30 l0 l1 a3 t491 t495 x65_6 x16_8 (t491.length : Int) x65_6 l1 (l1.length : Int) (wrap64 (x70_8 + 1)))))) else (none)) else (none))) = some r := H
                      have A46 := Aside0.mk A460
                      clear A460
                      by_cases c47 : t508 = true
                      ·subst c47
                       have H1 : (testamurlaw42_DevicesStale.l1 kj30 l0 l1 a3 t491 t495 x65_6 x16_8 (t491.length : Int) x65_6 l1 (l1.length : Int) (wrap64 (x70_8 + 1))) = some r := by rw [if_pos rfl] at H; exact H
                       clear H
                       have H := H1
                       clear H1
                       have H' := Aside0.mk H
                       clear H
                       have p506 : 0 ≤ (x70_8 : Int) := of_decide_eq_true (by first | (with_reducible assumption) | assumption)
                       have q506 : x70_8 < (l1.length : Int) := of_decide_eq_true (by first | (with_reducible assumption) | assumption)
                       obtain ⟨ad506, e506, hx506_0, hx506_1, hx506_2, hx506_3, hx506_4, hx506_5⟩ := at_T40 HR1.out x70_8 p506 q506
                       cases e506
                       replace hx506_0 := (HB.out.cell (World.block_lt_of_cell? w _ hx506_0)).trans hx506_0
                       replace hx506_1 := (HB.out.cell (World.block_lt_of_cell? w _ hx506_1)).trans hx506_1
                       replace hx506_2 := (HB.out.cell (World.block_lt_of_cell? w _ hx506_2)).trans hx506_2
                       replace hx506_3 := (HB.out.cell (World.block_lt_of_cell? w _ hx506_3)).trans hx506_3
                       replace hx506_4 := (HB.out.cell (World.block_lt_of_cell? w _ hx506_4)).trans hx506_4
                       replace hx506_5 := (HB.out.cell (World.block_lt_of_cell? w _ hx506_5)).trans hx506_5
                       replace p506 := eq_true p506
                       replace q506 := eq_true q506
                       go_wp2_with ((with_reducible refine gate_dst (N := 18) rfl ?_); refine Aside0.out (p := _) ?_)
                       refine ⟨?_⟩
                       refine box_event ?hg (N := 18) ?hd (cs := #[.int .i64 0, .int .i64 0, .int .i64 0, .int .i64 0, .int .i64 0, .int .i64 0]) (t := 40) ?hr ?_; (case hd => rfl); (case hg => rfl); (case hr => first | (go_simp; done) | (go_simp; rfl))
                       intro gb507 hg w48 hbox hb
                       have n0_ := Aside0.mk (Kd.R_below (by (with_reducible repeat (first | apply Kd.R_alloc | apply Kd.R_drewN | apply Kd.R_drew)); exact HO_11.out) hb)
                       have n1_ := Aside0.mk (Kd.R_below (by (with_reducible repeat (first | apply Kd.R_alloc | apply Kd.R_drewN | apply Kd.R_drew)); exact HO_13.out) hb)
                       have n2_ := Aside0.mk (below_step (by repeat (first | (with_reducible first | exact HB.out | apply below_alloc | apply pw_below_drewN | apply below_drew1) | exact HB.out)) hb)
                       have n3_ := Aside0.mk (hbox)
                       have n4_ := Aside0.mk ((by rw [hg]; exact (below_size (by repeat (first | (with_reducible first | exact HB.out | apply below_alloc | apply pw_below_drewN | apply below_drew1) | exact HB.out))) : w.heap.size ≤ gb507))
                       have n5_ := Aside0.mk ((by rw [hg]; exact (below_size (by repeat (first | (with_reducible first | exact HB.out | apply below_alloc | apply pw_below_drewN | apply below_drew1) | exact HB.out))) : w.heap.size ≤ gb507))
                       clear HO_11
                       clear HO_13
                       clear HB
                       have HO_11 := n0_
                       have HO_13 := n1_
                       have HB := n2_
                       have BK507 := n3_
                       have GW507 := n4_
                       have GE507 := n5_
                       clear n0_ n1_ n2_ n3_ n4_ n5_
                       clear hb hbox hg
                       have hcz49_0 : w48.cell? ⟨gb507, 0, none⟩ = some (.int .i64 0) := (blk_cell BK507.out 0).trans rfl
                       have hcz49_1 : w48.cell? ⟨gb507, 1, none⟩ = some (.int .i64 0) := (blk_cell BK507.out 1).trans rfl
                       have hcz49_2 : w48.cell? ⟨gb507, 2, none⟩ = some (.int .i64 0) := (blk_cell BK507.out 2).trans rfl
                       have hcz49_3 : w48.cell? ⟨gb507, 3, none⟩ = some (.int .i64 0) := (blk_cell BK507.out 3).trans rfl
                       have hcz49_4 : w48.cell? ⟨gb507, 4, none⟩ = some (.int .i64 0) := (blk_cell BK507.out 4).trans rfl
                       have hcz49_5 : w48.cell? ⟨gb507, 5, none⟩ = some (.int .i64 0) := (blk_cell BK507.out 5).trans rfl
                       have hfz49_0 := blk_frozen BK507.out 0
                       have hfz49_1 := blk_frozen BK507.out 1
                       have hfz49_2 := blk_frozen BK507.out 2
                       have hfz49_3 := blk_frozen BK507.out 3
                       have hfz49_4 := blk_frozen BK507.out 4
                       have hfz49_5 := blk_frozen BK507.out 5
                       go_wp2
                       have n0_ : Aside0 (Kd.R k47 47 ((((((w48.setCell ⟨gb507, 0, none⟩ (.int .i64 ((rd_T40 l1 x70_8).f0))).setCell ⟨gb507, 1, none⟩ (.int .i64 ((rd_T40 l1 x70_8).f1))).setCell ⟨gb507, 2, none⟩ (.int .i64 ((rd_T40 l1 x70_8).f2))).setCell ⟨gb507, 3, none⟩ (.int .i64 ((rd_T40 l1 x70_8).f3))).setCell ⟨gb507, 4, none⟩ (.int .i64 ((rd_T40 l1 x70_8).f4))).setCell ⟨gb507, 5, none⟩ (.int .i64 ((rd_T40 l1 x70_8).f5))) w.heap.size (fun k_ => some k_ ≠ (v497 : Value).ownBlock) (.slice Ao28 t491.length co28) t491) := ⟨by (with_reducible repeat (first | apply Kd.R_alloc | apply Kd.R_drewN | apply Kd.R_drew)); exact Kd.R_mono (Kd.R_far (p := ⟨gb507, 5, none⟩) (Kd.R_far (p := ⟨gb507, 4, none⟩) (Kd.R_far (p := ⟨gb507, 3, none⟩) (Kd.R_far (p := ⟨gb507, 2, none⟩) (Kd.R_far (p := ⟨gb507, 1, none⟩) (Kd.R_far (p := ⟨gb507, 0, none⟩) (Kd.R_types HO_11.out BK507.out (by decide)) (fun _ hk => hk.2) (.int .i64 ((rd_T40 l1 x70_8).f0))) (fun _ hk => hk.2) (.int .i64 ((rd_T40 l1 x70_8).f1))) (fun _ hk => hk.2) (.int .i64 ((rd_T40 l1 x70_8).f2))) (fun _ hk => hk.2) (.int .i64 ((rd_T40 l1 x70_8).f3))) (fun _ hk => hk.2) (.int .i64 ((rd_T40 l1 x70_8).f4))) (fun _ hk => hk.2) (.int .i64 ((rd_T40 l1 x70_8).f5))) (fun _ hk => hk.1)⟩
                       have n1_ : Aside0 (Kd.R k47 47 ((((((w48.setCell ⟨gb507, 0, none⟩ (.int .i64 ((rd_T40 l1 x70_8).f0))).setCell ⟨gb507, 1, none⟩ (.int .i64 ((rd_T40 l1 x70_8).f1))).setCell ⟨gb507, 2, none⟩ (.int .i64 ((rd_T40 l1 x70_8).f2))).setCell ⟨gb507, 3, none⟩ (.int .i64 ((rd_T40 l1 x70_8).f3))).setCell ⟨gb507, 4, none⟩ (.int .i64 ((rd_T40 l1 x70_8).f4))).setCell ⟨gb507, 5, none⟩ (.int .i64 ((rd_T40 l1 x70_8).f5))) w.heap.size (fun k_ => some k_ ≠ (.slice Ao28 t491.length co28 : Value).ownBlock) v497 t495) := ⟨by (with_reducible repeat (first | apply Kd.R_alloc | apply Kd.R_drewN | apply Kd.R_drew)); exact Kd.R_mono (Kd.R_far (p := ⟨gb507, 5, none⟩) (Kd.R_far (p := ⟨gb507, 4, none⟩) (Kd.R_far (p := ⟨gb507, 3, none⟩) (Kd.R_far (p := ⟨gb507, 2, none⟩) (Kd.R_far (p := ⟨gb507, 1, none⟩) (Kd.R_far (p := ⟨gb507, 0, none⟩) (Kd.R_types HO_13.out BK507.out (by decide)) (fun _ hk => hk.2) (.int .i64 ((rd_T40 l1 x70_8).f0))) (fun _ hk => hk.2) (.int .i64 ((rd_T40 l1 x70_8).f1))) (fun _ hk => hk.2) (.int .i64 ((rd_T40 l1 x70_8).f2))) (fun _ hk => hk.2) (.int .i64 ((rd_T40 l1 x70_8).f3))) (fun _ hk => hk.2) (.int .i64 ((rd_T40 l1 x70_8).f4))) (fun _ hk => hk.2) (.int .i64 ((rd_T40 l1 x70_8).f5))) (fun _ hk => hk.1)⟩
                       have n2_ : Aside0 (((((((w48.setCell ⟨gb507, 0, none⟩ (.int .i64 ((rd_T40 l1 x70_8).f0))).setCell ⟨gb507, 1, none⟩ (.int .i64 ((rd_T40 l1 x70_8).f1))).setCell ⟨gb507, 2, none⟩ (.int .i64 ((rd_T40 l1 x70_8).f2))).setCell ⟨gb507, 3, none⟩ (.int .i64 ((rd_T40 l1 x70_8).f3))).setCell ⟨gb507, 4, none⟩ (.int .i64 ((rd_T40 l1 x70_8).f4))).setCell ⟨gb507, 5, none⟩ (.int .i64 ((rd_T40 l1 x70_8).f5))).heap[gb507]? = some (.cells #[.int .i64 ((rd_T40 l1 x70_8).f0), .int .i64 ((rd_T40 l1 x70_8).f1), .int .i64 ((rd_T40 l1 x70_8).f2), .int .i64 ((rd_T40 l1 x70_8).f3), .int .i64 ((rd_T40 l1 x70_8).f4), .int .i64 ((rd_T40 l1 x70_8).f5)] 40 (0, 0))) := ⟨by (with_reducible repeat (first | refine blk_drewN ?_ _ | refine blk_drew ?_ | refine blk_alloc ?_ _)); refine blk_put (cs := #[.int .i64 ((rd_T40 l1 x70_8).f0), .int .i64 ((rd_T40 l1 x70_8).f1), .int .i64 ((rd_T40 l1 x70_8).f2), .int .i64 ((rd_T40 l1 x70_8).f3), .int .i64 ((rd_T40 l1 x70_8).f4), .int .i64 0]) ?_ 5 _ rfl; (with_reducible repeat (first | refine blk_drewN ?_ _ | refine blk_drew ?_ | refine blk_alloc ?_ _)); refine blk_put (cs := #[.int .i64 ((rd_T40 l1 x70_8).f0), .int .i64 ((rd_T40 l1 x70_8).f1), .int .i64 ((rd_T40 l1 x70_8).f2), .int .i64 ((rd_T40 l1 x70_8).f3), .int .i64 0, .int .i64 0]) ?_ 4 _ rfl; (with_reducible repeat (first | refine blk_drewN ?_ _ | refine blk_drew ?_ | refine blk_alloc ?_ _)); refine blk_put (cs := #[.int .i64 ((rd_T40 l1 x70_8).f0), .int .i64 ((rd_T40 l1 x70_8).f1), .int .i64 ((rd_T40 l1 x70_8).f2), .int .i64 0, .int .i64 0, .int .i64 0]) ?_ 3 _ rfl; (with_reducible repeat (first | refine blk_drewN ?_ _ | refine blk_drew ?_ | refine blk_alloc ?_ _)); refine blk_put (cs := #[.int .i64 ((rd_T40 l1 x70_8).f0), .int .i64 ((rd_T40 l1 x70_8).f1), .int .i64 0, .int .i64 0, .int .i64 0, .int .i64 0]) ?_ 2 _ rfl; (with_reducible repeat (first | refine blk_drewN ?_ _ | refine blk_drew ?_ | refine blk_alloc ?_ _)); refine blk_put (cs := #[.int .i64 ((rd_T40 l1 x70_8).f0), .int .i64 0, .int .i64 0, .int .i64 0, .int .i64 0, .int .i64 0]) ?_ 1 _ rfl; (with_reducible repeat (first | refine blk_drewN ?_ _ | refine blk_drew ?_ | refine blk_alloc ?_ _)); refine blk_put (cs := #[.int .i64 0, .int .i64 0, .int .i64 0, .int .i64 0, .int .i64 0, .int .i64 0]) ?_ 0 _ rfl; (with_reducible repeat (first | refine blk_drewN ?_ _ | refine blk_drew ?_ | refine blk_alloc ?_ _)); exact BK507.out⟩
                       have n3_ : Aside0 (Below w.heap.size w ((((((w48.setCell ⟨gb507, 0, none⟩ (.int .i64 ((rd_T40 l1 x70_8).f0))).setCell ⟨gb507, 1, none⟩ (.int .i64 ((rd_T40 l1 x70_8).f1))).setCell ⟨gb507, 2, none⟩ (.int .i64 ((rd_T40 l1 x70_8).f2))).setCell ⟨gb507, 3, none⟩ (.int .i64 ((rd_T40 l1 x70_8).f3))).setCell ⟨gb507, 4, none⟩ (.int .i64 ((rd_T40 l1 x70_8).f4))).setCell ⟨gb507, 5, none⟩ (.int .i64 ((rd_T40 l1 x70_8).f5)))) := ⟨by repeat (first | (with_reducible first | exact HB.out | apply below_alloc | apply pw_below_drewN | apply below_drew1 | refine below_set ?_ GE507.out) | exact HB.out)⟩
                       (try clear HO_11)
                       (try clear HO_13)
                       (try clear BK507)
                       (try clear HB)
                       generalize ((((((w48.setCell ⟨gb507, 0, none⟩ (.int .i64 ((rd_T40 l1 x70_8).f0))).setCell ⟨gb507, 1, none⟩ (.int .i64 ((rd_T40 l1 x70_8).f1))).setCell ⟨gb507, 2, none⟩ (.int .i64 ((rd_T40 l1 x70_8).f2))).setCell ⟨gb507, 3, none⟩ (.int .i64 ((rd_T40 l1 x70_8).f3))).setCell ⟨gb507, 4, none⟩ (.int .i64 ((rd_T40 l1 x70_8).f4))).setCell ⟨gb507, 5, none⟩ (.int .i64 ((rd_T40 l1 x70_8).f5))) = w50 at n0_ n1_ n2_ n3_ ⊢
                       have HO_11 := n0_
                       have HO_13 := n1_
                       have BK507 := n2_
                       have HB := n3_
                       clear n0_ n1_ n2_ n3_
                       have n0_ := Aside0.mk (Kd.R_drew HO_11.out)
                       have n1_ := Aside0.mk (Kd.R_drew HO_13.out)
                       have n2_ := Aside0.mk (blk_drew BK507.out)
                       have n3_ := Aside0.mk (below_drew1 HB.out)
                       clear HO_11
                       clear HO_13
                       clear BK507
                       clear HB
                       have HO_11 := n0_
                       have HO_13 := n1_
                       have BK507 := n2_
                       have HB := n3_
                       clear n0_ n1_ n2_ n3_
                       refine start_ (n := 28) (S := fun w' => w'.cell? ⟨gb507, 0, none⟩ = some (.int .i64 ((rd_T40 l1 x70_8).f0)) ∧ w'.cell? ⟨gb507, 1, none⟩ = some (.int .i64 ((rd_T40 l1 x70_8).f1)) ∧ w'.cell? ⟨gb507, 2, none⟩ = some (.int .i64 ((rd_T40 l1 x70_8).f2)) ∧ w'.cell? ⟨gb507, 3, none⟩ = some (.int .i64 ((rd_T40 l1 x70_8).f3)) ∧ w'.cell? ⟨gb507, 4, none⟩ = some (.int .i64 ((rd_T40 l1 x70_8).f4)) ∧ w'.cell? ⟨gb507, 5, none⟩ = some (.int .i64 ((rd_T40 l1 x70_8).f5))) (ds := []) #[false, false, false, false, false, false, false, false, false, false, false, false, false, false, false, false, false, false, false, false, false, false, false, false, false, false, false, false] (by kernel_rfl) rfl rfl ⟨(blk_cell BK507.out 0).trans rfl, (blk_cell BK507.out 1).trans rfl, (blk_cell BK507.out 2).trans rfl, (blk_cell BK507.out 3).trans rfl, (blk_cell BK507.out 4).trans rfl, (blk_cell BK507.out 5).trans rfl⟩ (fun hHeld => ?_); refine with_tabW testamurlaw42_DevicesStale.tab17 testamurlaw42_DevicesStale.bits17 (fun HT_ HW_ => ?_)
                       generalize w50.drew = w51 at HO_11 HO_13 BK507 HB hHeld ⊢
                       refine pure_ (i := 0) (N := some 74) (v := ?_) (a' := ?_) #[true, false, false, false, false, false, false, false, false, false, false, false, false, false, false, false, false, false, false, false, false, false, false, false, false, false, false, false] rfl rfl (any_of HT_.out (by kernel_rfl)) (fun _ _ _ h => h) (Or.inl ⟨by rfl, ?_⟩) ?_ ?_
                       rotate_left
                       ·intro w'
                        go_simp
                        with_reducible rfl
                       rotate_left
                       ·simp only [Act.put, List.setIfInBounds_toArray, List.set_cons_zero, List.set_cons_succ, i64_w, i32_w]
                        rfl
                       refine pure_ (i := 2) (N := some 76) (v := ?_) (a' := ?_) #[true, false, true, false, false, false, false, false, false, false, false, false, false, false, false, false, false, false, false, false, false, false, false, false, false, false, false, false] rfl rfl (any_of HT_.out (by kernel_rfl)) (fun _ _ _ h => h) (Or.inl ⟨by rfl, ?_⟩) ?_ ?_
                       rotate_left
                       ·intro w'
                        go_simp
                        with_reducible rfl
                       rotate_left
                       ·simp only [Act.put, List.setIfInBounds_toArray, List.set_cons_zero, List.set_cons_succ, i64_w, i32_w]
                        rfl
                       refine take_ (i := 1) (N := some 75) (v := ?_) (a' := ?_) #[true, true, true, false, false, false, false, false, false, false, false, false, false, false, false, false, false, false, false, false, false, false, false, false, false, false, false, false] rfl rfl (take_ofW HT_.out HW_.out (by kernel_rfl)) (fun _ _ _ h => h) (Or.inl ⟨by rfl, ?_⟩) hHeld ?_ ?_
                       rotate_left
                       ·rintro w' ⟨s0, s1, s2, s3, s4, s5⟩
                        go_simp
                        with_reducible rfl
                       rotate_left
                       ·simp only [Act.put, List.setIfInBounds_toArray, List.set_cons_zero, List.set_cons_succ, i64_w, i32_w]
                        rfl
                       refine pure_ (i := 3) (N := some 77) (v := ?_) (a' := ?_) #[true, true, true, true, false, false, false, false, false, false, false, false, false, false, false, false, false, false, false, false, false, false, false, false, false, false, false, false] rfl rfl (any_of HT_.out (by kernel_rfl)) (fun _ _ _ h => h) (Or.inl ⟨by rfl, ?_⟩) ?_ ?_
                       rotate_left
                       ·intro w'
                        go_simp
                        with_reducible rfl
                       rotate_left
                       ·simp only [Act.put, List.setIfInBounds_toArray, List.set_cons_zero, List.set_cons_succ, i64_w, i32_w]
                        rfl
                       refine pure_ (i := 4) (N := some 78) (v := ?_) (a' := ?_) #[true, true, true, true, true, false, false, false, false, false, false, false, false, false, false, false, false, false, false, false, false, false, false, false, false, false, false, false] rfl rfl (any_of HT_.out (by kernel_rfl)) (fun _ _ _ h => h) (Or.inl ⟨by rfl, ?_⟩) ?_ ?_
                       rotate_left
                       ·intro w'
                        go_simp
                        with_reducible rfl
                       rotate_left
                       ·simp only [Act.put, List.setIfInBounds_toArray, List.set_cons_zero, List.set_cons_succ, i64_w, i32_w]
                        rfl
                       refine pure_ (i := 5) (N := some 79) (v := ?_) (a' := ?_) #[true, true, true, true, true, true, false, false, false, false, false, false, false, false, false, false, false, false, false, false, false, false, false, false, false, false, false, false] rfl rfl (any_of HT_.out (by kernel_rfl)) (fun _ _ _ h => h) (Or.inl ⟨by rfl, ?_⟩) ?_ ?_
                       rotate_left
                       ·intro w'
                        go_simp
                        with_reducible rfl
                       rotate_left
                       ·simp only [Act.put, List.setIfInBounds_toArray, List.set_cons_zero, List.set_cons_succ, i64_w, i32_w]
                        rfl
                       refine take_ (i := 6) (N := some 80) (v := ?_) (a' := ?_) #[true, true, true, true, true, true, true, false, false, false, false, false, false, false, false, false, false, false, false, false, false, false, false, false, false, false, false, false] rfl rfl (take_ofW HT_.out HW_.out (by kernel_rfl)) (fun _ _ _ h => h) (Or.inl ⟨by rfl, ?_⟩) hHeld ?_ ?_
                       rotate_left
                       ·rintro w' ⟨s0, s1, s2, s3, s4, s5⟩
                        go_simp
                        with_reducible rfl
                       rotate_left
                       ·simp only [Act.put, List.setIfInBounds_toArray, List.set_cons_zero, List.set_cons_succ, i64_w, i32_w]
                        rfl
                       refine one_ (i := 7) (N := some 81) #[true, true, true, true, true, true, true, true, false, false, false, false, false, false, false, false, false, false, false, false, false, false, false, false, false, false, false, false] rfl rfl (one_of HT_.out (by kernel_rfl)) (by decide) (fun K hK => ?_)
                       refine goes_ Try.func37 (by kernel_rfl) rfl #[.slice A0 l0.length c0, .agg #[.int .i64 ((rd_T40 l1 x70_8).f0), .int .i64 ((rd_T40 l1 x70_8).f1), .int .i64 ((rd_T40 l1 x70_8).f2), .int .i64 ((rd_T40 l1 x70_8).f3), .int .i64 ((rd_T40 l1 x70_8).f4), .int .i64 ((rd_T40 l1 x70_8).f5)]] (by rfl) rfl rfl (by (try simp only [List.map_toArray, List.map_cons, List.map_nil]); first | done | rfl | (simp only [List.length_drop, List.length_take]; rfl)) ?_
                       with_reducible refine (testamurref42_Has.calls kj30 _ _ l0 ((rd_T40 l1 x70_8).f0) ((rd_T40 l1 x70_8).f1) ((rd_T40 l1 x70_8).f2) ((rd_T40 l1 x70_8).f3) ((rd_T40 l1 x70_8).f4) ((rd_T40 l1 x70_8).f5) true _ ?side1 ?side2 A46.out).mono ?_
                       (case side1 => repeat (first | exact (Kd.C_below HR0.out HB.out) | (with_reducible refine Kd.C_alloc ?_ _) | (with_reducible refine Kd.C_drewN ?_ _) | (with_reducible refine Kd.C_drew ?_)))
                       (case side2 => exact HC0.out)
                       rintro e w52 ⟨rfl, hb⟩
                       refine ⟨_, rfl, ?_⟩
                       have n0_ := Aside0.mk (Kd.R_below (by (with_reducible repeat (first | apply Kd.R_alloc | apply Kd.R_drewN | apply Kd.R_drew)); exact HO_11.out) hb)
                       have n1_ := Aside0.mk (Kd.R_below (by (with_reducible repeat (first | apply Kd.R_alloc | apply Kd.R_drewN | apply Kd.R_drew)); exact HO_13.out) hb)
                       have n2_ := Aside0.mk (blk_below (g := gb507) (o := .cells #[.int .i64 ((rd_T40 l1 x70_8).f0), .int .i64 ((rd_T40 l1 x70_8).f1), .int .i64 ((rd_T40 l1 x70_8).f2), .int .i64 ((rd_T40 l1 x70_8).f3), .int .i64 ((rd_T40 l1 x70_8).f4), .int .i64 ((rd_T40 l1 x70_8).f5)] 40 (0, 0)) (by (with_reducible repeat (first | refine blk_drewN ?_ _ | refine blk_drew ?_ | refine blk_alloc ?_ _)); exact BK507.out) hb)
                       have n3_ := Aside0.mk (below_step (by repeat (first | (with_reducible first | exact HB.out | apply below_alloc | apply pw_below_drewN | apply below_drew1 | refine below_set ?_ GE507.out) | exact HB.out)) hb)
                       clear HO_11
                       clear HO_13
                       clear BK507
                       clear HB
                       have HO_11 := n0_
                       have HO_13 := n1_
                       have BK507 := n2_
                       have HB := n3_
                       clear n0_ n1_ n2_ n3_
                       (try clear hb)
                       (try clear hb2)
                       (try clear hk)
                       (try clear hi)
                       refine hK.out _ _ ⟨(blk_cell BK507.out 0).trans rfl, (blk_cell BK507.out 1).trans rfl, (blk_cell BK507.out 2).trans rfl, (blk_cell BK507.out 3).trans rfl, (blk_cell BK507.out 4).trans rfl, (blk_cell BK507.out 5).trans rfl⟩ (fun hHeld => ?_)
                       clear hK K
                       refine norm_ (a' := ?_) ?_ ?_
                       rotate_left
                       ·show Act.put _ (some 81) _ = _
                        simp only [Act.put, List.setIfInBounds_toArray, List.set_cons_zero, List.set_cons_succ, i64_w, i32_w]
                        rfl
                       refine pure_ (i := 8) (N := some 82) (v := ?_) (a' := ?_) #[true, true, true, true, true, true, true, true, true, false, false, false, false, false, false, false, false, false, false, false, false, false, false, false, false, false, false, false] rfl rfl (any_of HT_.out (by kernel_rfl)) (fun _ _ _ h => h) (Or.inl ⟨by rfl, ?_⟩) ?_ ?_
                       rotate_left
                       ·intro w'
                        go_simp
                        with_reducible rfl
                       rotate_left
                       ·simp only [Act.put, List.setIfInBounds_toArray, List.set_cons_zero, List.set_cons_succ, i64_w, i32_w]
                        rfl
                       refine pure_ (i := 9) (N := some 83) (v := ?_) (a' := ?_) #[true, true, true, true, true, true, true, true, true, true, false, false, false, false, false, false, false, false, false, false, false, false, false, false, false, false, false, false] rfl rfl (any_of HT_.out (by kernel_rfl)) (fun _ _ _ h => h) (Or.inl ⟨by rfl, ?_⟩) ?_ ?_
                       rotate_left
                       ·intro w'
                        go_simp
                        with_reducible rfl
                       rotate_left
                       ·simp only [Act.put, List.setIfInBounds_toArray, List.set_cons_zero, List.set_cons_succ, i64_w, i32_w]
                        rfl
                       refine pure_ (i := 10) (N := some 84) (v := ?_) (a' := ?_) #[true, true, true, true, true, true, true, true, true, true, true, false, false, false, false, false, false, false, false, false, false, false, false, false, false, false, false, false] rfl rfl (any_of HT_.out (by kernel_rfl)) (fun _ _ _ h => h) (Or.inl ⟨by rfl, ?_⟩) ?_ ?_
                       rotate_left
                       ·intro w'
                        go_simp
                        with_reducible rfl
                       rotate_left
                       ·simp only [Act.put, List.setIfInBounds_toArray, List.set_cons_zero, List.set_cons_succ, i64_w, i32_w]
                        rfl
                       refine pure_ (i := 11) (N := some 85) (v := undef) (a' := ?_) #[true, true, true, true, true, true, true, true, true, true, true, true, false, false, false, false, false, false, false, false, false, false, false, false, false, false, false, false] rfl rfl (any_of HT_.out (by kernel_rfl)) (fun _ _ _ h => h) (Or.inr ⟨by rfl, rfl⟩) ?_ ?_
                       rotate_left
                       ·simp only [Act.put, List.setIfInBounds_toArray, List.set_cons_zero, List.set_cons_succ, i64_w, i32_w]
                        rfl
                       refine pure_ (i := 12) (N := some 86) (v := undef) (a' := ?_) #[true, true, true, true, true, true, true, true, true, true, true, true, true, false, false, false, false, false, false, false, false, false, false, false, false, false, false, false] rfl rfl (any_of HT_.out (by kernel_rfl)) (fun _ _ _ h => h) (Or.inr ⟨by rfl, rfl⟩) ?_ ?_
                       rotate_left
                       ·simp only [Act.put, List.setIfInBounds_toArray, List.set_cons_zero, List.set_cons_succ, i64_w, i32_w]
                        rfl
                       refine pure_ (i := 13) (N := some 87) (v := undef) (a' := ?_) #[true, true, true, true, true, true, true, true, true, true, true, true, true, true, false, false, false, false, false, false, false, false, false, false, false, false, false, false] rfl rfl (any_of HT_.out (by kernel_rfl)) (fun _ _ _ h => h) (Or.inr ⟨by rfl, rfl⟩) ?_ ?_
                       rotate_left
                       ·simp only [Act.put, List.setIfInBounds_toArray, List.set_cons_zero, List.set_cons_succ, i64_w, i32_w]
                        rfl
                       refine pure_ (i := 14) (N := some 88) (v := undef) (a' := ?_) #[true, true, true, true, true, true, true, true, true, true, true, true, true, true, true, false, false, false, false, false, false, false, false, false, false, false, false, false] rfl rfl (any_of HT_.out (by kernel_rfl)) (fun _ _ _ h => h) (Or.inr ⟨by rfl, rfl⟩) ?_ ?_
                       rotate_left
                       ·simp only [Act.put, List.setIfInBounds_toArray, List.set_cons_zero, List.set_cons_succ, i64_w, i32_w]
                        rfl
                       refine pure_ (i := 15) (N := some 89) (v := undef) (a' := ?_) #[true, true, true, true, true, true, true, true, true, true, true, true, true, true, true, true, false, false, false, false, false, false, false, false, false, false, false, false] rfl rfl (any_of HT_.out (by kernel_rfl)) (fun _ _ _ h => h) (Or.inr ⟨by rfl, rfl⟩) ?_ ?_
                       rotate_left
                       ·simp only [Act.put, List.setIfInBounds_toArray, List.set_cons_zero, List.set_cons_succ, i64_w, i32_w]
                        rfl
                       refine pure_ (i := 16) (N := some 90) (v := undef) (a' := ?_) #[true, true, true, true, true, true, true, true, true, true, true, true, true, true, true, true, true, false, false, false, false, false, false, false, false, false, false, false] rfl rfl (any_of HT_.out (by kernel_rfl)) (fun _ _ _ h => h) (Or.inr ⟨by rfl, rfl⟩) ?_ ?_
                       rotate_left
                       ·simp only [Act.put, List.setIfInBounds_toArray, List.set_cons_zero, List.set_cons_succ, i64_w, i32_w]
                        rfl
                       refine pure_ (i := 17) (N := some 91) (v := undef) (a' := ?_) #[true, true, true, true, true, true, true, true, true, true, true, true, true, true, true, true, true, true, false, false, false, false, false, false, false, false, false, false] rfl rfl (any_of HT_.out (by kernel_rfl)) (fun _ _ _ h => h) (Or.inr ⟨by rfl, rfl⟩) ?_ ?_
                       rotate_left
                       ·simp only [Act.put, List.setIfInBounds_toArray, List.set_cons_zero, List.set_cons_succ, i64_w, i32_w]
                        rfl
                       refine pure_ (i := 18) (N := some 92) (v := undef) (a' := ?_) #[true, true, true, true, true, true, true, true, true, true, true, true, true, true, true, true, true, true, true, false, false, false, false, false, false, false, false, false] rfl rfl (any_of HT_.out (by kernel_rfl)) (fun _ _ _ h => h) (Or.inr ⟨by rfl, rfl⟩) ?_ ?_
                       rotate_left
                       ·simp only [Act.put, List.setIfInBounds_toArray, List.set_cons_zero, List.set_cons_succ, i64_w, i32_w]
                        rfl
                       refine pure_ (i := 19) (N := some 93) (v := undef) (a' := ?_) #[true, true, true, true, true, true, true, true, true, true, true, true, true, true, true, true, true, true, true, true, false, false, false, false, false, false, false, false] rfl rfl (any_of HT_.out (by kernel_rfl)) (fun _ _ _ h => h) (Or.inr ⟨by rfl, rfl⟩) ?_ ?_
                       rotate_left
                       ·simp only [Act.put, List.setIfInBounds_toArray, List.set_cons_zero, List.set_cons_succ, i64_w, i32_w]
                        rfl
                       refine pure_ (i := 20) (N := some 94) (v := undef) (a' := ?_) #[true, true, true, true, true, true, true, true, true, true, true, true, true, true, true, true, true, true, true, true, true, false, false, false, false, false, false, false] rfl rfl (any_of HT_.out (by kernel_rfl)) (fun _ _ _ h => h) (Or.inr ⟨by rfl, rfl⟩) ?_ ?_
                       rotate_left
                       ·simp only [Act.put, List.setIfInBounds_toArray, List.set_cons_zero, List.set_cons_succ, i64_w, i32_w]
                        rfl
                       refine pure_ (i := 21) (N := some 95) (v := undef) (a' := ?_) #[true, true, true, true, true, true, true, true, true, true, true, true, true, true, true, true, true, true, true, true, true, true, false, false, false, false, false, false] rfl rfl (any_of HT_.out (by kernel_rfl)) (fun _ _ _ h => h) (Or.inr ⟨by rfl, rfl⟩) ?_ ?_
                       rotate_left
                       ·simp only [Act.put, List.setIfInBounds_toArray, List.set_cons_zero, List.set_cons_succ, i64_w, i32_w]
                        rfl
                       refine pure_ (i := 22) (N := some 96) (v := undef) (a' := ?_) #[true, true, true, true, true, true, true, true, true, true, true, true, true, true, true, true, true, true, true, true, true, true, true, false, false, false, false, false] rfl rfl (any_of HT_.out (by kernel_rfl)) (fun _ _ _ h => h) (Or.inr ⟨by rfl, rfl⟩) ?_ ?_
                       rotate_left
                       ·simp only [Act.put, List.setIfInBounds_toArray, List.set_cons_zero, List.set_cons_succ, i64_w, i32_w]
                        rfl
                       refine pure_ (i := 23) (N := some 97) (v := undef) (a' := ?_) #[true, true, true, true, true, true, true, true, true, true, true, true, true, true, true, true, true, true, true, true, true, true, true, true, false, false, false, false] rfl rfl (any_of HT_.out (by kernel_rfl)) (fun _ _ _ h => h) (Or.inr ⟨by rfl, rfl⟩) ?_ ?_
                       rotate_left
                       ·simp only [Act.put, List.setIfInBounds_toArray, List.set_cons_zero, List.set_cons_succ, i64_w, i32_w]
                        rfl
                       refine pure_ (i := 24) (N := some 98) (v := undef) (a' := ?_) #[true, true, true, true, true, true, true, true, true, true, true, true, true, true, true, true, true, true, true, true, true, true, true, true, true, false, false, false] rfl rfl (any_of HT_.out (by kernel_rfl)) (fun _ _ _ h => h) (Or.inr ⟨by rfl, rfl⟩) ?_ ?_
                       rotate_left
                       ·simp only [Act.put, List.setIfInBounds_toArray, List.set_cons_zero, List.set_cons_succ, i64_w, i32_w]
                        rfl
                       refine pure_ (i := 25) (N := some 99) (v := undef) (a' := ?_) #[true, true, true, true, true, true, true, true, true, true, true, true, true, true, true, true, true, true, true, true, true, true, true, true, true, true, false, false] rfl rfl (any_of HT_.out (by kernel_rfl)) (fun _ _ _ h => h) (Or.inr ⟨by rfl, rfl⟩) ?_ ?_
                       rotate_left
                       ·simp only [Act.put, List.setIfInBounds_toArray, List.set_cons_zero, List.set_cons_succ, i64_w, i32_w]
                        rfl
                       refine pure_ (i := 26) (N := some 100) (v := undef) (a' := ?_) #[true, true, true, true, true, true, true, true, true, true, true, true, true, true, true, true, true, true, true, true, true, true, true, true, true, true, true, false] rfl rfl (any_of HT_.out (by kernel_rfl)) (fun _ _ _ h => h) (Or.inr ⟨by rfl, rfl⟩) ?_ ?_
                       rotate_left
                       ·simp only [Act.put, List.setIfInBounds_toArray, List.set_cons_zero, List.set_cons_succ, i64_w, i32_w]
                        rfl
                       refine pure_ (i := 27) (N := some 101) (v := ?_) (a' := ?_) #[true, true, true, true, true, true, true, true, true, true, true, true, true, true, true, true, true, true, true, true, true, true, true, true, true, true, true, true] rfl rfl (any_of HT_.out (by kernel_rfl)) (fun _ _ _ h => h) (Or.inl ⟨by rfl, ?_⟩) ?_ ?_
                       rotate_left
                       ·intro w'
                        go_simp
                        with_reducible rfl
                       rotate_left
                       ·simp only [Act.put, List.setIfInBounds_toArray, List.set_cons_zero, List.set_cons_succ, i64_w, i32_w]
                        rfl
                       refine done_ (done_of HT_.out (by kernel_rfl)) ?_
                       go_wp2
                       go_roundg kj30
                       case measure => have := HJ5.out; have := HJ8.out; have := HJ13.out; have := HJ18.out; have := HJ25.out; have := HK6.out; have := HJ28.out; have := HK8.out; have := HJ30.out; omega
                       case rel => exact ⟨(x16_8), (wrap64 (x70_8 + 1)), (by first | rfl | (simp; done) | (simp [*]; done)), (by first | rfl | (simp; done) | (simp [*]; done)), H', ⟨by have := HJ5.out; have := HJ8.out; have := HJ13.out; have := HJ18.out; have := HJ25.out; have := HK6.out; have := HJ28.out; have := HK8.out; have := HJ30.out; omega⟩, ⟨by (with_reducible repeat (first | apply Kd.R_alloc | apply Kd.R_drewN | apply Kd.R_drew)); exact HO_11.out⟩, ⟨by (with_reducible repeat (first | apply Kd.R_alloc | apply Kd.R_drewN | apply Kd.R_drew)); exact HO_13.out⟩, ⟨by repeat (first | (with_reducible first | exact HB.out | apply below_alloc | apply pw_below_drewN | apply below_drew1 | refine below_set ?_ GE507.out) | exact HB.out)⟩⟩
                      ·replace c47 := Bool.eq_false_iff.mpr c47
                       subst c47
                       have H1 : (if 0 ≤ x65_6 then (if x65_6 < (t491.length : Int) then (if ((rd_T40 l1 x70_8).f0) = ((rd_T47 t491 x65_6).f1) then (testamurlaw42_DevicesStale.l1 kj30 l0 l1 a3 t491 t495 x65_6 true (t491.length : Int) x65_6 l1 (l1.length : Int) (wrap64 (x70_8 + 1))) else ((testamurlaw42_had.f kj30 l0 x65_6 a3 ((rd_T40 l1 x70_8).f0)).bind fun t512 => (if t512 = true then (testamurlaw42_DevicesStale.l1 kj30 l0 l1 a3 t491 t495 x65_6 true (t491.length : Int) x65_6 l1 (l1.length : Int) (wrap64 (x70_8 + 1))) else (testamurlaw42_DevicesStale.l1 kj30 l0 l1 a3 t491 t495 x65_6 x16_8 (t491.length : Int) x65_6 l1 (l1.length : Int) (wrap64 (x70_8 + 1)))))) else (none)) else (none)) = some r := by rw [if_neg (show ¬ (false = true) by decide)] at H; exact H
                       clear H
                       have H := H1
                       clear H1
                       by_cases c53 : 0 ≤ x65_6
                       ·rw [if_pos c53] at H
                        have c53b0 : decide (0 ≤ x65_6) = true := decide_eq_true c53
                        clear c53
                        by_cases c54 : x65_6 < (t491.length : Int)
                        ·rw [if_pos c54] at H
                         have c54b0 : decide (x65_6 < (t491.length : Int)) = true := decide_eq_true c54
                         clear c54
                         by_cases c55 : ((rd_T40 l1 x70_8).f0) = ((rd_T47 t491 x65_6).f1)
                         ·rw [if_pos c55] at H
                          have c55b0 : (((rd_T40 l1 x70_8).f0) == ((rd_T47 t491 x65_6).f1)) = true := beq_iff_eq.mpr c55
                          have c55b1 : (((rd_T40 l1 x70_8).f0) != ((rd_T47 t491 x65_6).f1)) = false := bne_eq_false_iff_eq.mpr c55
                          clear c55
                          have H' := Aside0.mk H
                          clear H
                          have p506 : 0 ≤ (x70_8 : Int) := of_decide_eq_true (by first | (with_reducible assumption) | assumption)
                          have q506 : x70_8 < (l1.length : Int) := of_decide_eq_true (by first | (with_reducible assumption) | assumption)
                          obtain ⟨ad506, e506, hx506_0, hx506_1, hx506_2, hx506_3, hx506_4, hx506_5⟩ := at_T40 HR1.out x70_8 p506 q506
                          cases e506
                          replace hx506_0 := (HB.out.cell (World.block_lt_of_cell? w _ hx506_0)).trans hx506_0
                          replace hx506_1 := (HB.out.cell (World.block_lt_of_cell? w _ hx506_1)).trans hx506_1
                          replace hx506_2 := (HB.out.cell (World.block_lt_of_cell? w _ hx506_2)).trans hx506_2
                          replace hx506_3 := (HB.out.cell (World.block_lt_of_cell? w _ hx506_3)).trans hx506_3
                          replace hx506_4 := (HB.out.cell (World.block_lt_of_cell? w _ hx506_4)).trans hx506_4
                          replace hx506_5 := (HB.out.cell (World.block_lt_of_cell? w _ hx506_5)).trans hx506_5
                          replace p506 := eq_true p506
                          replace q506 := eq_true q506
                          go_wp2_with ((with_reducible refine gate_dst (N := 18) rfl ?_); refine Aside0.out (p := _) ?_)
                          refine ⟨?_⟩
                          refine box_event ?hg (N := 18) ?hd (cs := #[.int .i64 0, .int .i64 0, .int .i64 0, .int .i64 0, .int .i64 0, .int .i64 0]) (t := 40) ?hr ?_; (case hd => rfl); (case hg => rfl); (case hr => first | (go_simp; done) | (go_simp; rfl))
                          intro gb507 hg w56 hbox hb
                          have n0_ := Aside0.mk (Kd.R_below (by (with_reducible repeat (first | apply Kd.R_alloc | apply Kd.R_drewN | apply Kd.R_drew)); exact HO_11.out) hb)
                          have n1_ := Aside0.mk (Kd.R_below (by (with_reducible repeat (first | apply Kd.R_alloc | apply Kd.R_drewN | apply Kd.R_drew)); exact HO_13.out) hb)
                          have n2_ := Aside0.mk (below_step (by repeat (first | (with_reducible first | exact HB.out | apply below_alloc | apply pw_below_drewN | apply below_drew1) | exact HB.out)) hb)
                          have n3_ := Aside0.mk (hbox)
                          have n4_ := Aside0.mk ((by rw [hg]; exact (below_size (by repeat (first | (with_reducible first | exact HB.out | apply below_alloc | apply pw_below_drewN | apply below_drew1) | exact HB.out))) : w.heap.size ≤ gb507))
                          have n5_ := Aside0.mk ((by rw [hg]; exact (below_size (by repeat (first | (with_reducible first | exact HB.out | apply below_alloc | apply pw_below_drewN | apply below_drew1) | exact HB.out))) : w.heap.size ≤ gb507))
                          clear HO_11
                          clear HO_13
                          clear HB
                          have HO_11 := n0_
                          have HO_13 := n1_
                          have HB := n2_
                          have BK507 := n3_
                          have GW507 := n4_
                          have GE507 := n5_
                          clear n0_ n1_ n2_ n3_ n4_ n5_
                          clear hb hbox hg
                          have hcz57_0 : w56.cell? ⟨gb507, 0, none⟩ = some (.int .i64 0) := (blk_cell BK507.out 0).trans rfl
                          have hcz57_1 : w56.cell? ⟨gb507, 1, none⟩ = some (.int .i64 0) := (blk_cell BK507.out 1).trans rfl
                          have hcz57_2 : w56.cell? ⟨gb507, 2, none⟩ = some (.int .i64 0) := (blk_cell BK507.out 2).trans rfl
                          have hcz57_3 : w56.cell? ⟨gb507, 3, none⟩ = some (.int .i64 0) := (blk_cell BK507.out 3).trans rfl
                          have hcz57_4 : w56.cell? ⟨gb507, 4, none⟩ = some (.int .i64 0) := (blk_cell BK507.out 4).trans rfl
                          have hcz57_5 : w56.cell? ⟨gb507, 5, none⟩ = some (.int .i64 0) := (blk_cell BK507.out 5).trans rfl
                          have hfz57_0 := blk_frozen BK507.out 0
                          have hfz57_1 := blk_frozen BK507.out 1
                          have hfz57_2 := blk_frozen BK507.out 2
                          have hfz57_3 := blk_frozen BK507.out 3
                          have hfz57_4 := blk_frozen BK507.out 4
                          have hfz57_5 := blk_frozen BK507.out 5
                          go_wp2
                          have n0_ : Aside0 (Kd.R k47 47 ((((((w56.setCell ⟨gb507, 0, none⟩ (.int .i64 ((rd_T40 l1 x70_8).f0))).setCell ⟨gb507, 1, none⟩ (.int .i64 ((rd_T40 l1 x70_8).f1))).setCell ⟨gb507, 2, none⟩ (.int .i64 ((rd_T40 l1 x70_8).f2))).setCell ⟨gb507, 3, none⟩ (.int .i64 ((rd_T40 l1 x70_8).f3))).setCell ⟨gb507, 4, none⟩ (.int .i64 ((rd_T40 l1 x70_8).f4))).setCell ⟨gb507, 5, none⟩ (.int .i64 ((rd_T40 l1 x70_8).f5))) w.heap.size (fun k_ => some k_ ≠ (v497 : Value).ownBlock) (.slice Ao28 t491.length co28) t491) := ⟨by (with_reducible repeat (first | apply Kd.R_alloc | apply Kd.R_drewN | apply Kd.R_drew)); exact Kd.R_mono (Kd.R_far (p := ⟨gb507, 5, none⟩) (Kd.R_far (p := ⟨gb507, 4, none⟩) (Kd.R_far (p := ⟨gb507, 3, none⟩) (Kd.R_far (p := ⟨gb507, 2, none⟩) (Kd.R_far (p := ⟨gb507, 1, none⟩) (Kd.R_far (p := ⟨gb507, 0, none⟩) (Kd.R_types HO_11.out BK507.out (by decide)) (fun _ hk => hk.2) (.int .i64 ((rd_T40 l1 x70_8).f0))) (fun _ hk => hk.2) (.int .i64 ((rd_T40 l1 x70_8).f1))) (fun _ hk => hk.2) (.int .i64 ((rd_T40 l1 x70_8).f2))) (fun _ hk => hk.2) (.int .i64 ((rd_T40 l1 x70_8).f3))) (fun _ hk => hk.2) (.int .i64 ((rd_T40 l1 x70_8).f4))) (fun _ hk => hk.2) (.int .i64 ((rd_T40 l1 x70_8).f5))) (fun _ hk => hk.1)⟩
                          have n1_ : Aside0 (Kd.R k47 47 ((((((w56.setCell ⟨gb507, 0, none⟩ (.int .i64 ((rd_T40 l1 x70_8).f0))).setCell ⟨gb507, 1, none⟩ (.int .i64 ((rd_T40 l1 x70_8).f1))).setCell ⟨gb507, 2, none⟩ (.int .i64 ((rd_T40 l1 x70_8).f2))).setCell ⟨gb507, 3, none⟩ (.int .i64 ((rd_T40 l1 x70_8).f3))).setCell ⟨gb507, 4, none⟩ (.int .i64 ((rd_T40 l1 x70_8).f4))).setCell ⟨gb507, 5, none⟩ (.int .i64 ((rd_T40 l1 x70_8).f5))) w.heap.size (fun k_ => some k_ ≠ (.slice Ao28 t491.length co28 : Value).ownBlock) v497 t495) := ⟨by (with_reducible repeat (first | apply Kd.R_alloc | apply Kd.R_drewN | apply Kd.R_drew)); exact Kd.R_mono (Kd.R_far (p := ⟨gb507, 5, none⟩) (Kd.R_far (p := ⟨gb507, 4, none⟩) (Kd.R_far (p := ⟨gb507, 3, none⟩) (Kd.R_far (p := ⟨gb507, 2, none⟩) (Kd.R_far (p := ⟨gb507, 1, none⟩) (Kd.R_far (p := ⟨gb507, 0, none⟩) (Kd.R_types HO_13.out BK507.out (by decide)) (fun _ hk => hk.2) (.int .i64 ((rd_T40 l1 x70_8).f0))) (fun _ hk => hk.2) (.int .i64 ((rd_T40 l1 x70_8).f1))) (fun _ hk => hk.2) (.int .i64 ((rd_T40 l1 x70_8).f2))) (fun _ hk => hk.2) (.int .i64 ((rd_T40 l1 x70_8).f3))) (fun _ hk => hk.2) (.int .i64 ((rd_T40 l1 x70_8).f4))) (fun _ hk => hk.2) (.int .i64 ((rd_T40 l1 x70_8).f5))) (fun _ hk => hk.1)⟩
                          have n2_ : Aside0 (((((((w56.setCell ⟨gb507, 0, none⟩ (.int .i64 ((rd_T40 l1 x70_8).f0))).setCell ⟨gb507, 1, none⟩ (.int .i64 ((rd_T40 l1 x70_8).f1))).setCell ⟨gb507, 2, none⟩ (.int .i64 ((rd_T40 l1 x70_8).f2))).setCell ⟨gb507, 3, none⟩ (.int .i64 ((rd_T40 l1 x70_8).f3))).setCell ⟨gb507, 4, none⟩ (.int .i64 ((rd_T40 l1 x70_8).f4))).setCell ⟨gb507, 5, none⟩ (.int .i64 ((rd_T40 l1 x70_8).f5))).heap[gb507]? = some (.cells #[.int .i64 ((rd_T40 l1 x70_8).f0), .int .i64 ((rd_T40 l1 x70_8).f1), .int .i64 ((rd_T40 l1 x70_8).f2), .int .i64 ((rd_T40 l1 x70_8).f3), .int .i64 ((rd_T40 l1 x70_8).f4), .int .i64 ((rd_T40 l1 x70_8).f5)] 40 (0, 0))) := ⟨by (with_reducible repeat (first | refine blk_drewN ?_ _ | refine blk_drew ?_ | refine blk_alloc ?_ _)); refine blk_put (cs := #[.int .i64 ((rd_T40 l1 x70_8).f0), .int .i64 ((rd_T40 l1 x70_8).f1), .int .i64 ((rd_T40 l1 x70_8).f2), .int .i64 ((rd_T40 l1 x70_8).f3), .int .i64 ((rd_T40 l1 x70_8).f4), .int .i64 0]) ?_ 5 _ rfl; (with_reducible repeat (first | refine blk_drewN ?_ _ | refine blk_drew ?_ | refine blk_alloc ?_ _)); refine blk_put (cs := #[.int .i64 ((rd_T40 l1 x70_8).f0), .int .i64 ((rd_T40 l1 x70_8).f1), .int .i64 ((rd_T40 l1 x70_8).f2), .int .i64 ((rd_T40 l1 x70_8).f3), .int .i64 0, .int .i64 0]) ?_ 4 _ rfl; (with_reducible repeat (first | refine blk_drewN ?_ _ | refine blk_drew ?_ | refine blk_alloc ?_ _)); refine blk_put (cs := #[.int .i64 ((rd_T40 l1 x70_8).f0), .int .i64 ((rd_T40 l1 x70_8).f1), .int .i64 ((rd_T40 l1 x70_8).f2), .int .i64 0, .int .i64 0, .int .i64 0]) ?_ 3 _ rfl; (with_reducible repeat (first | refine blk_drewN ?_ _ | refine blk_drew ?_ | refine blk_alloc ?_ _)); refine blk_put (cs := #[.int .i64 ((rd_T40 l1 x70_8).f0), .int .i64 ((rd_T40 l1 x70_8).f1), .int .i64 0, .int .i64 0, .int .i64 0, .int .i64 0]) ?_ 2 _ rfl; (with_reducible repeat (first | refine blk_drewN ?_ _ | refine blk_drew ?_ | refine blk_alloc ?_ _)); refine blk_put (cs := #[.int .i64 ((rd_T40 l1 x70_8).f0), .int .i64 0, .int .i64 0, .int .i64 0, .int .i64 0, .int .i64 0]) ?_ 1 _ rfl; (with_reducible repeat (first | refine blk_drewN ?_ _ | refine blk_drew ?_ | refine blk_alloc ?_ _)); refine blk_put (cs := #[.int .i64 0, .int .i64 0, .int .i64 0, .int .i64 0, .int .i64 0, .int .i64 0]) ?_ 0 _ rfl; (with_reducible repeat (first | refine blk_drewN ?_ _ | refine blk_drew ?_ | refine blk_alloc ?_ _)); exact BK507.out⟩
                          have n3_ : Aside0 (Below w.heap.size w ((((((w56.setCell ⟨gb507, 0, none⟩ (.int .i64 ((rd_T40 l1 x70_8).f0))).setCell ⟨gb507, 1, none⟩ (.int .i64 ((rd_T40 l1 x70_8).f1))).setCell ⟨gb507, 2, none⟩ (.int .i64 ((rd_T40 l1 x70_8).f2))).setCell ⟨gb507, 3, none⟩ (.int .i64 ((rd_T40 l1 x70_8).f3))).setCell ⟨gb507, 4, none⟩ (.int .i64 ((rd_T40 l1 x70_8).f4))).setCell ⟨gb507, 5, none⟩ (.int .i64 ((rd_T40 l1 x70_8).f5)))) := ⟨by repeat (first | (with_reducible first | exact HB.out | apply below_alloc | apply pw_below_drewN | apply below_drew1 | refine below_set ?_ GE507.out) | exact HB.out)⟩
                          (try clear HO_11)
                          (try clear HO_13)
                          (try clear BK507)
                          (try clear HB)
                          generalize ((((((w56.setCell ⟨gb507, 0, none⟩ (.int .i64 ((rd_T40 l1 x70_8).f0))).setCell ⟨gb507, 1, none⟩ (.int .i64 ((rd_T40 l1 x70_8).f1))).setCell ⟨gb507, 2, none⟩ (.int .i64 ((rd_T40 l1 x70_8).f2))).setCell ⟨gb507, 3, none⟩ (.int .i64 ((rd_T40 l1 x70_8).f3))).setCell ⟨gb507, 4, none⟩ (.int .i64 ((rd_T40 l1 x70_8).f4))).setCell ⟨gb507, 5, none⟩ (.int .i64 ((rd_T40 l1 x70_8).f5))) = w58 at n0_ n1_ n2_ n3_ ⊢
                          have HO_11 := n0_
                          have HO_13 := n1_
                          have BK507 := n2_
                          have HB := n3_
                          clear n0_ n1_ n2_ n3_
                          have n0_ := Aside0.mk (Kd.R_drew HO_11.out)
                          have n1_ := Aside0.mk (Kd.R_drew HO_13.out)
                          have n2_ := Aside0.mk (blk_drew BK507.out)
                          have n3_ := Aside0.mk (below_drew1 HB.out)
                          clear HO_11
                          clear HO_13
                          clear BK507
                          clear HB
                          have HO_11 := n0_
                          have HO_13 := n1_
                          have BK507 := n2_
                          have HB := n3_
                          clear n0_ n1_ n2_ n3_
                          have p511 : 0 ≤ (x65_6 : Int) := of_decide_eq_true (by first | (with_reducible assumption) | assumption)
                          have q511 : x65_6 < (t491.length : Int) := of_decide_eq_true (by first | (with_reducible assumption) | assumption)
                          obtain ⟨ad511, e511, hx511_0, hx511_1, hx511_2, hx511_3⟩ := at_T47 (Kd.R_reads' HO_11.out).2.2 x65_6 p511 q511
                          cases e511
                          replace p511 := eq_true p511
                          replace q511 := eq_true q511
                          refine start_ (n := 28) (S := fun w' => w'.cell? ⟨gb507, 0, none⟩ = some (.int .i64 ((rd_T40 l1 x70_8).f0)) ∧ w'.cell? ⟨gb507, 1, none⟩ = some (.int .i64 ((rd_T40 l1 x70_8).f1)) ∧ w'.cell? ⟨gb507, 2, none⟩ = some (.int .i64 ((rd_T40 l1 x70_8).f2)) ∧ w'.cell? ⟨gb507, 3, none⟩ = some (.int .i64 ((rd_T40 l1 x70_8).f3)) ∧ w'.cell? ⟨gb507, 4, none⟩ = some (.int .i64 ((rd_T40 l1 x70_8).f4)) ∧ w'.cell? ⟨gb507, 5, none⟩ = some (.int .i64 ((rd_T40 l1 x70_8).f5)) ∧ w'.cell? (ad511.add ((x65_6).toNat * 4)) = some (.int .i64 ((rd_T47 t491 x65_6).f0)) ∧ w'.cell? ⟨(ad511.add ((x65_6).toNat * 4)).block, (ad511.add ((x65_6).toNat * 4)).off + 1, none⟩ = some (.int .i64 ((rd_T47 t491 x65_6).f1)) ∧ w'.cell? ⟨(ad511.add ((x65_6).toNat * 4)).block, (ad511.add ((x65_6).toNat * 4)).off + 2, none⟩ = some (.int .i64 ((rd_T47 t491 x65_6).f2)) ∧ w'.cell? ⟨(ad511.add ((x65_6).toNat * 4)).block, (ad511.add ((x65_6).toNat * 4)).off + 3, none⟩ = some (.bool ((rd_T47 t491 x65_6).f3))) (ds := []) #[false, false, false, false, false, false, false, false, false, false, false, false, false, false, false, false, false, false, false, false, false, false, false, false, false, false, false, false] (by kernel_rfl) rfl rfl ⟨(blk_cell BK507.out 0).trans rfl, (blk_cell BK507.out 1).trans rfl, (blk_cell BK507.out 2).trans rfl, (blk_cell BK507.out 3).trans rfl, (blk_cell BK507.out 4).trans rfl, (blk_cell BK507.out 5).trans rfl, hx511_0, hx511_1, hx511_2, hx511_3⟩ (fun hHeld => ?_); refine with_tabW testamurlaw42_DevicesStale.tab17 testamurlaw42_DevicesStale.bits17 (fun HT_ HW_ => ?_)
                          generalize w58.drew = w59 at HO_11 HO_13 BK507 HB hx511_0 hx511_1 hx511_2 hx511_3 hHeld ⊢
                          refine pure_ (i := 0) (N := some 74) (v := ?_) (a' := ?_) #[true, false, false, false, false, false, false, false, false, false, false, false, false, false, false, false, false, false, false, false, false, false, false, false, false, false, false, false] rfl rfl (any_of HT_.out (by kernel_rfl)) (fun _ _ _ h => h) (Or.inl ⟨by rfl, ?_⟩) ?_ ?_
                          rotate_left
                          ·intro w'
                           go_simp
                           with_reducible rfl
                          rotate_left
                          ·simp only [Act.put, List.setIfInBounds_toArray, List.set_cons_zero, List.set_cons_succ, i64_w, i32_w]
                           rfl
                          refine pure_ (i := 2) (N := some 76) (v := ?_) (a' := ?_) #[true, false, true, false, false, false, false, false, false, false, false, false, false, false, false, false, false, false, false, false, false, false, false, false, false, false, false, false] rfl rfl (any_of HT_.out (by kernel_rfl)) (fun _ _ _ h => h) (Or.inl ⟨by rfl, ?_⟩) ?_ ?_
                          rotate_left
                          ·intro w'
                           go_simp
                           with_reducible rfl
                          rotate_left
                          ·simp only [Act.put, List.setIfInBounds_toArray, List.set_cons_zero, List.set_cons_succ, i64_w, i32_w]
                           rfl
                          refine take_ (i := 1) (N := some 75) (v := ?_) (a' := ?_) #[true, true, true, false, false, false, false, false, false, false, false, false, false, false, false, false, false, false, false, false, false, false, false, false, false, false, false, false] rfl rfl (take_ofW HT_.out HW_.out (by kernel_rfl)) (fun _ _ _ h => h) (Or.inl ⟨by rfl, ?_⟩) hHeld ?_ ?_
                          rotate_left
                          ·rintro w' ⟨s0, s1, s2, s3, s4, s5, s6, s7, s8, s9⟩
                           go_simp
                           with_reducible rfl
                          rotate_left
                          ·simp only [Act.put, List.setIfInBounds_toArray, List.set_cons_zero, List.set_cons_succ, i64_w, i32_w]
                           rfl
                          refine pure_ (i := 3) (N := some 77) (v := ?_) (a' := ?_) #[true, true, true, true, false, false, false, false, false, false, false, false, false, false, false, false, false, false, false, false, false, false, false, false, false, false, false, false] rfl rfl (any_of HT_.out (by kernel_rfl)) (fun _ _ _ h => h) (Or.inl ⟨by rfl, ?_⟩) ?_ ?_
                          rotate_left
                          ·intro w'
                           go_simp
                           with_reducible rfl
                          rotate_left
                          ·simp only [Act.put, List.setIfInBounds_toArray, List.set_cons_zero, List.set_cons_succ, i64_w, i32_w]
                           rfl
                          refine pure_ (i := 4) (N := some 78) (v := ?_) (a' := ?_) #[true, true, true, true, true, false, false, false, false, false, false, false, false, false, false, false, false, false, false, false, false, false, false, false, false, false, false, false] rfl rfl (any_of HT_.out (by kernel_rfl)) (fun _ _ _ h => h) (Or.inl ⟨by rfl, ?_⟩) ?_ ?_
                          rotate_left
                          ·intro w'
                           go_simp
                           with_reducible rfl
                          rotate_left
                          ·simp only [Act.put, List.setIfInBounds_toArray, List.set_cons_zero, List.set_cons_succ, i64_w, i32_w]
                           rfl
                          refine pure_ (i := 5) (N := some 79) (v := ?_) (a' := ?_) #[true, true, true, true, true, true, false, false, false, false, false, false, false, false, false, false, false, false, false, false, false, false, false, false, false, false, false, false] rfl rfl (any_of HT_.out (by kernel_rfl)) (fun _ _ _ h => h) (Or.inl ⟨by rfl, ?_⟩) ?_ ?_
                          rotate_left
                          ·intro w'
                           go_simp
                           with_reducible rfl
                          rotate_left
                          ·simp only [Act.put, List.setIfInBounds_toArray, List.set_cons_zero, List.set_cons_succ, i64_w, i32_w]
                           rfl
                          refine take_ (i := 6) (N := some 80) (v := ?_) (a' := ?_) #[true, true, true, true, true, true, true, false, false, false, false, false, false, false, false, false, false, false, false, false, false, false, false, false, false, false, false, false] rfl rfl (take_ofW HT_.out HW_.out (by kernel_rfl)) (fun _ _ _ h => h) (Or.inl ⟨by rfl, ?_⟩) hHeld ?_ ?_
                          rotate_left
                          ·rintro w' ⟨s0, s1, s2, s3, s4, s5, s6, s7, s8, s9⟩
                           go_simp
                           with_reducible rfl
                          rotate_left
                          ·simp only [Act.put, List.setIfInBounds_toArray, List.set_cons_zero, List.set_cons_succ, i64_w, i32_w]
                           rfl
                          refine one_ (i := 7) (N := some 81) #[true, true, true, true, true, true, true, true, false, false, false, false, false, false, false, false, false, false, false, false, false, false, false, false, false, false, false, false] rfl rfl (one_of HT_.out (by kernel_rfl)) (by decide) (fun K hK => ?_)
                          refine goes_ Try.func37 (by kernel_rfl) rfl #[.slice A0 l0.length c0, .agg #[.int .i64 ((rd_T40 l1 x70_8).f0), .int .i64 ((rd_T40 l1 x70_8).f1), .int .i64 ((rd_T40 l1 x70_8).f2), .int .i64 ((rd_T40 l1 x70_8).f3), .int .i64 ((rd_T40 l1 x70_8).f4), .int .i64 ((rd_T40 l1 x70_8).f5)]] (by rfl) rfl rfl (by (try simp only [List.map_toArray, List.map_cons, List.map_nil]); first | done | rfl | (simp only [List.length_drop, List.length_take]; rfl)) ?_
                          with_reducible refine (testamurref42_Has.calls kj30 _ _ l0 ((rd_T40 l1 x70_8).f0) ((rd_T40 l1 x70_8).f1) ((rd_T40 l1 x70_8).f2) ((rd_T40 l1 x70_8).f3) ((rd_T40 l1 x70_8).f4) ((rd_T40 l1 x70_8).f5) false _ ?side1 ?side2 A46.out).mono ?_
                          (case side1 => repeat (first | exact (Kd.C_below HR0.out HB.out) | (with_reducible refine Kd.C_alloc ?_ _) | (with_reducible refine Kd.C_drewN ?_ _) | (with_reducible refine Kd.C_drew ?_)))
                          (case side2 => exact HC0.out)
                          rintro e w60 ⟨rfl, hb⟩
                          have HS6_ := (hb.cell (World.block_lt_of_cell? _ _ (hHeld.2.2.2.2.2.2.1))).trans (hHeld.2.2.2.2.2.2.1)
                          have HS7_ := (hb.cell (World.block_lt_of_cell? _ _ (hHeld.2.2.2.2.2.2.2.1))).trans (hHeld.2.2.2.2.2.2.2.1)
                          have HS8_ := (hb.cell (World.block_lt_of_cell? _ _ (hHeld.2.2.2.2.2.2.2.2.1))).trans (hHeld.2.2.2.2.2.2.2.2.1)
                          have HS9_ := (hb.cell (World.block_lt_of_cell? _ _ (hHeld.2.2.2.2.2.2.2.2.2))).trans (hHeld.2.2.2.2.2.2.2.2.2)
                          refine ⟨_, rfl, ?_⟩
                          have n0_ := Aside0.mk (Kd.R_below (by (with_reducible repeat (first | apply Kd.R_alloc | apply Kd.R_drewN | apply Kd.R_drew)); exact HO_11.out) hb)
                          have n1_ := Aside0.mk (Kd.R_below (by (with_reducible repeat (first | apply Kd.R_alloc | apply Kd.R_drewN | apply Kd.R_drew)); exact HO_13.out) hb)
                          have n2_ := Aside0.mk (blk_below (g := gb507) (o := .cells #[.int .i64 ((rd_T40 l1 x70_8).f0), .int .i64 ((rd_T40 l1 x70_8).f1), .int .i64 ((rd_T40 l1 x70_8).f2), .int .i64 ((rd_T40 l1 x70_8).f3), .int .i64 ((rd_T40 l1 x70_8).f4), .int .i64 ((rd_T40 l1 x70_8).f5)] 40 (0, 0)) (by (with_reducible repeat (first | refine blk_drewN ?_ _ | refine blk_drew ?_ | refine blk_alloc ?_ _)); exact BK507.out) hb)
                          have n3_ := Aside0.mk (below_step (by repeat (first | (with_reducible first | exact HB.out | apply below_alloc | apply pw_below_drewN | apply below_drew1 | refine below_set ?_ GE507.out) | exact HB.out)) hb)
                          clear HO_11
                          clear HO_13
                          clear BK507
                          clear HB
                          have HO_11 := n0_
                          have HO_13 := n1_
                          have BK507 := n2_
                          have HB := n3_
                          clear n0_ n1_ n2_ n3_
                          (try clear hb)
                          (try clear hb2)
                          (try clear hk)
                          (try clear hi)
                          refine hK.out _ _ ⟨(blk_cell BK507.out 0).trans rfl, (blk_cell BK507.out 1).trans rfl, (blk_cell BK507.out 2).trans rfl, (blk_cell BK507.out 3).trans rfl, (blk_cell BK507.out 4).trans rfl, (blk_cell BK507.out 5).trans rfl, HS6_, HS7_, HS8_, HS9_⟩ (fun hHeld => ?_)
                          clear hK K
                          refine norm_ (a' := ?_) ?_ ?_
                          rotate_left
                          ·show Act.put _ (some 81) _ = _
                           simp only [Act.put, List.setIfInBounds_toArray, List.set_cons_zero, List.set_cons_succ, i64_w, i32_w]
                           rfl
                          refine pure_ (i := 8) (N := some 82) (v := ?_) (a' := ?_) #[true, true, true, true, true, true, true, true, true, false, false, false, false, false, false, false, false, false, false, false, false, false, false, false, false, false, false, false] rfl rfl (any_of HT_.out (by kernel_rfl)) (fun _ _ _ h => h) (Or.inl ⟨by rfl, ?_⟩) ?_ ?_
                          rotate_left
                          ·intro w'
                           go_simp
                           with_reducible rfl
                          rotate_left
                          ·simp only [Act.put, List.setIfInBounds_toArray, List.set_cons_zero, List.set_cons_succ, i64_w, i32_w]
                           rfl
                          refine pure_ (i := 9) (N := some 83) (v := ?_) (a' := ?_) #[true, true, true, true, true, true, true, true, true, true, false, false, false, false, false, false, false, false, false, false, false, false, false, false, false, false, false, false] rfl rfl (any_of HT_.out (by kernel_rfl)) (fun _ _ _ h => h) (Or.inl ⟨by rfl, ?_⟩) ?_ ?_
                          rotate_left
                          ·intro w'
                           go_simp
                           with_reducible rfl
                          rotate_left
                          ·simp only [Act.put, List.setIfInBounds_toArray, List.set_cons_zero, List.set_cons_succ, i64_w, i32_w]
                           rfl
                          refine pure_ (i := 10) (N := some 84) (v := ?_) (a' := ?_) #[true, true, true, true, true, true, true, true, true, true, true, false, false, false, false, false, false, false, false, false, false, false, false, false, false, false, false, false] rfl rfl (any_of HT_.out (by kernel_rfl)) (fun _ _ _ h => h) (Or.inl ⟨by rfl, ?_⟩) ?_ ?_
                          rotate_left
                          ·intro w'
                           go_simp
                           with_reducible rfl
                          rotate_left
                          ·simp only [Act.put, List.setIfInBounds_toArray, List.set_cons_zero, List.set_cons_succ, i64_w, i32_w]
                           rfl
                          refine pure_ (i := 11) (N := some 85) (v := ?_) (a' := ?_) #[true, true, true, true, true, true, true, true, true, true, true, true, false, false, false, false, false, false, false, false, false, false, false, false, false, false, false, false] rfl rfl (any_of HT_.out (by kernel_rfl)) (fun _ _ _ h => h) (Or.inl ⟨by rfl, ?_⟩) ?_ ?_
                          rotate_left
                          ·intro w'
                           go_simp
                           with_reducible rfl
                          rotate_left
                          ·simp only [Act.put, List.setIfInBounds_toArray, List.set_cons_zero, List.set_cons_succ, i64_w, i32_w]
                           rfl
                          refine pure_ (i := 13) (N := some 87) (v := ?_) (a' := ?_) #[true, true, true, true, true, true, true, true, true, true, true, true, false, true, false, false, false, false, false, false, false, false, false, false, false, false, false, false] rfl rfl (any_of HT_.out (by kernel_rfl)) (fun _ _ _ h => h) (Or.inl ⟨by rfl, ?_⟩) ?_ ?_
                          rotate_left
                          ·intro w'
                           go_simp
                           with_reducible rfl
                          rotate_left
                          ·simp only [Act.put, List.setIfInBounds_toArray, List.set_cons_zero, List.set_cons_succ, i64_w, i32_w]
                           rfl
                          refine pure_ (i := 14) (N := some 88) (v := ?_) (a' := ?_) #[true, true, true, true, true, true, true, true, true, true, true, true, false, true, true, false, false, false, false, false, false, false, false, false, false, false, false, false] rfl rfl (any_of HT_.out (by kernel_rfl)) (fun _ _ _ h => h) (Or.inl ⟨by rfl, ?_⟩) ?_ ?_
                          rotate_left
                          ·intro w'
                           go_simp
                           with_reducible rfl
                          rotate_left
                          ·simp only [Act.put, List.setIfInBounds_toArray, List.set_cons_zero, List.set_cons_succ, i64_w, i32_w]
                           rfl
                          refine pure_ (i := 15) (N := some 89) (v := ?_) (a' := ?_) #[true, true, true, true, true, true, true, true, true, true, true, true, false, true, true, true, false, false, false, false, false, false, false, false, false, false, false, false] rfl rfl (any_of HT_.out (by kernel_rfl)) (fun _ _ _ h => h) (Or.inl ⟨by rfl, ?_⟩) ?_ ?_
                          rotate_left
                          ·intro w'
                           go_simp
                           with_reducible rfl
                          rotate_left
                          ·simp only [Act.put, List.setIfInBounds_toArray, List.set_cons_zero, List.set_cons_succ, i64_w, i32_w]
                           rfl
                          refine pure_ (i := 16) (N := some 90) (v := ?_) (a' := ?_) #[true, true, true, true, true, true, true, true, true, true, true, true, false, true, true, true, true, false, false, false, false, false, false, false, false, false, false, false] rfl rfl (any_of HT_.out (by kernel_rfl)) (fun _ _ _ h => h) (Or.inl ⟨by rfl, ?_⟩) ?_ ?_
                          rotate_left
                          ·intro w'
                           go_simp
                           with_reducible rfl
                          rotate_left
                          ·simp only [Act.put, List.setIfInBounds_toArray, List.set_cons_zero, List.set_cons_succ, i64_w, i32_w]
                           rfl
                          refine take_ (i := 12) (N := some 86) (v := ?_) (a' := ?_) #[true, true, true, true, true, true, true, true, true, true, true, true, true, true, true, true, true, false, false, false, false, false, false, false, false, false, false, false] rfl rfl (take_ofW HT_.out HW_.out (by kernel_rfl)) (fun _ _ _ h => h) (Or.inl ⟨by rfl, ?_⟩) hHeld ?_ ?_
                          rotate_left
                          ·rintro w' ⟨s0, s1, s2, s3, s4, s5, s6, s7, s8, s9⟩
                           go_simp
                           with_reducible rfl
                          rotate_left
                          ·simp only [Act.put, List.setIfInBounds_toArray, List.set_cons_zero, List.set_cons_succ, i64_w, i32_w]
                           rfl
                          refine take_ (i := 17) (N := some 91) (v := ?_) (a' := ?_) #[true, true, true, true, true, true, true, true, true, true, true, true, true, true, true, true, true, true, false, false, false, false, false, false, false, false, false, false] rfl rfl (take_ofW HT_.out HW_.out (by kernel_rfl)) (fun _ _ _ h => h) (Or.inl ⟨by rfl, ?_⟩) hHeld ?_ ?_
                          rotate_left
                          ·rintro w' ⟨s0, s1, s2, s3, s4, s5, s6, s7, s8, s9⟩
                           go_simp
                           with_reducible rfl
                          rotate_left
                          ·simp only [Act.put, List.setIfInBounds_toArray, List.set_cons_zero, List.set_cons_succ, i64_w, i32_w]
                           rfl
                          refine pure_ (i := 18) (N := some 92) (v := ?_) (a' := ?_) #[true, true, true, true, true, true, true, true, true, true, true, true, true, true, true, true, true, true, true, false, false, false, false, false, false, false, false, false] rfl rfl (any_of HT_.out (by kernel_rfl)) (fun _ _ _ h => h) (Or.inl ⟨by rfl, ?_⟩) ?_ ?_
                          rotate_left
                          ·intro w'
                           go_simp
                           with_reducible rfl
                          rotate_left
                          ·simp only [Act.put, List.setIfInBounds_toArray, List.set_cons_zero, List.set_cons_succ, i64_w, i32_w]
                           rfl
                          refine pure_ (i := 19) (N := some 93) (v := ?_) (a' := ?_) #[true, true, true, true, true, true, true, true, true, true, true, true, true, true, true, true, true, true, true, true, false, false, false, false, false, false, false, false] rfl rfl (any_of HT_.out (by kernel_rfl)) (fun _ _ _ h => h) (Or.inl ⟨by rfl, ?_⟩) ?_ ?_
                          rotate_left
                          ·intro w'
                           go_simp
                           with_reducible rfl
                          rotate_left
                          ·simp only [Act.put, List.setIfInBounds_toArray, List.set_cons_zero, List.set_cons_succ, i64_w, i32_w]
                           rfl
                          refine pure_ (i := 20) (N := some 94) (v := undef) (a' := ?_) #[true, true, true, true, true, true, true, true, true, true, true, true, true, true, true, true, true, true, true, true, true, false, false, false, false, false, false, false] rfl rfl (any_of HT_.out (by kernel_rfl)) (fun _ _ _ h => h) (Or.inr ⟨by rfl, rfl⟩) ?_ ?_
                          rotate_left
                          ·simp only [Act.put, List.setIfInBounds_toArray, List.set_cons_zero, List.set_cons_succ, i64_w, i32_w]
                           rfl
                          refine pure_ (i := 21) (N := some 95) (v := undef) (a' := ?_) #[true, true, true, true, true, true, true, true, true, true, true, true, true, true, true, true, true, true, true, true, true, true, false, false, false, false, false, false] rfl rfl (any_of HT_.out (by kernel_rfl)) (fun _ _ _ h => h) (Or.inr ⟨by rfl, rfl⟩) ?_ ?_
                          rotate_left
                          ·simp only [Act.put, List.setIfInBounds_toArray, List.set_cons_zero, List.set_cons_succ, i64_w, i32_w]
                           rfl
                          refine pure_ (i := 22) (N := some 96) (v := undef) (a' := ?_) #[true, true, true, true, true, true, true, true, true, true, true, true, true, true, true, true, true, true, true, true, true, true, true, false, false, false, false, false] rfl rfl (any_of HT_.out (by kernel_rfl)) (fun _ _ _ h => h) (Or.inr ⟨by rfl, rfl⟩) ?_ ?_
                          rotate_left
                          ·simp only [Act.put, List.setIfInBounds_toArray, List.set_cons_zero, List.set_cons_succ, i64_w, i32_w]
                           rfl
                          refine pure_ (i := 23) (N := some 97) (v := undef) (a' := ?_) #[true, true, true, true, true, true, true, true, true, true, true, true, true, true, true, true, true, true, true, true, true, true, true, true, false, false, false, false] rfl rfl (any_of HT_.out (by kernel_rfl)) (fun _ _ _ h => h) (Or.inr ⟨by rfl, rfl⟩) ?_ ?_
                          rotate_left
                          ·simp only [Act.put, List.setIfInBounds_toArray, List.set_cons_zero, List.set_cons_succ, i64_w, i32_w]
                           rfl
                          refine pure_ (i := 24) (N := some 98) (v := undef) (a' := ?_) #[true, true, true, true, true, true, true, true, true, true, true, true, true, true, true, true, true, true, true, true, true, true, true, true, true, false, false, false] rfl rfl (any_of HT_.out (by kernel_rfl)) (fun _ _ _ h => h) (Or.inr ⟨by rfl, rfl⟩) ?_ ?_
                          rotate_left
                          ·simp only [Act.put, List.setIfInBounds_toArray, List.set_cons_zero, List.set_cons_succ, i64_w, i32_w]
                           rfl
                          refine pure_ (i := 25) (N := some 99) (v := undef) (a' := ?_) #[true, true, true, true, true, true, true, true, true, true, true, true, true, true, true, true, true, true, true, true, true, true, true, true, true, true, false, false] rfl rfl (any_of HT_.out (by kernel_rfl)) (fun _ _ _ h => h) (Or.inr ⟨by rfl, rfl⟩) ?_ ?_
                          rotate_left
                          ·simp only [Act.put, List.setIfInBounds_toArray, List.set_cons_zero, List.set_cons_succ, i64_w, i32_w]
                           rfl
                          refine pure_ (i := 26) (N := some 100) (v := ?_) (a' := ?_) #[true, true, true, true, true, true, true, true, true, true, true, true, true, true, true, true, true, true, true, true, true, true, true, true, true, true, true, false] rfl rfl (any_of HT_.out (by kernel_rfl)) (fun _ _ _ h => h) (Or.inl ⟨by rfl, ?_⟩) ?_ ?_
                          rotate_left
                          ·intro w'
                           go_simp
                           with_reducible rfl
                          rotate_left
                          ·simp only [Act.put, List.setIfInBounds_toArray, List.set_cons_zero, List.set_cons_succ, i64_w, i32_w]
                           rfl
                          refine pure_ (i := 27) (N := some 101) (v := ?_) (a' := ?_) #[true, true, true, true, true, true, true, true, true, true, true, true, true, true, true, true, true, true, true, true, true, true, true, true, true, true, true, true] rfl rfl (any_of HT_.out (by kernel_rfl)) (fun _ _ _ h => h) (Or.inl ⟨by rfl, ?_⟩) ?_ ?_
                          rotate_left
                          ·intro w'
                           go_simp
                           with_reducible rfl
                          rotate_left
                          ·simp only [Act.put, List.setIfInBounds_toArray, List.set_cons_zero, List.set_cons_succ, i64_w, i32_w]
                           rfl
                          refine done_ (done_of HT_.out (by kernel_rfl)) ?_
                          go_wp2
                          go_roundg kj30
                          case measure => have := HJ5.out; have := HJ8.out; have := HJ13.out; have := HJ18.out; have := HJ25.out; have := HK6.out; have := HJ28.out; have := HK8.out; have := HJ30.out; omega
                          case rel => exact ⟨(true), (wrap64 (x70_8 + 1)), (by first | rfl | (simp; done) | (simp [*]; done)), (by first | rfl | (simp; done) | (simp [*]; done)), H', ⟨by have := HJ5.out; have := HJ8.out; have := HJ13.out; have := HJ18.out; have := HJ25.out; have := HK6.out; have := HJ28.out; have := HK8.out; have := HJ30.out; omega⟩, ⟨by (with_reducible repeat (first | apply Kd.R_alloc | apply Kd.R_drewN | apply Kd.R_drew)); exact HO_11.out⟩, ⟨by (with_reducible repeat (first | apply Kd.R_alloc | apply Kd.R_drewN | apply Kd.R_drew)); exact HO_13.out⟩, ⟨by repeat (first | (with_reducible first | exact HB.out | apply below_alloc | apply pw_below_drewN | apply below_drew1 | refine below_set ?_ GE507.out) | exact HB.out)⟩⟩
                         ·rw [if_neg c55] at H
                          have c55b0 : (((rd_T40 l1 x70_8).f0) == ((rd_T47 t491 x65_6).f1)) = false := beq_eq_false_iff_ne.mpr c55
                          have c55b1 : (((rd_T40 l1 x70_8).f0) != ((rd_T47 t491 x65_6).f1)) = true := bne_iff_ne.mpr c55
                          replace H := Option.bind_eq_some_iff.mp H
                          obtain ⟨t512, A610, H⟩ := H
                          replace H : (if t512 = true then (testamurlaw42_DevicesStale.l1 kj30 l0 l1 a3 t491 t495 x65_6 true (t491.length : Int) x65_6 l1 (l1.length : Int) (wrap64 (x70_8 + 1))) else (testamurlaw42_DevicesStale.l1 kj30 l0 l1 a3 t491 t495 x65_6 x16_8 (t491.length : Int) x65_6 l1 (l1.length : Int) (wrap64 (x70_8 + 1)))) = some r := H
                          have A61 := Aside0.mk A610
                          clear A610
                          by_cases c62 : t512 = true
                          ·subst c62
                           have H1 : (testamurlaw42_DevicesStale.l1 kj30 l0 l1 a3 t491 t495 x65_6 true (t491.length : Int) x65_6 l1 (l1.length : Int) (wrap64 (x70_8 + 1))) = some r := by rw [if_pos rfl] at H; exact H
                           clear H
                           have H := H1
                           clear H1
                           have H' := Aside0.mk H
                           clear H
                           have p506 : 0 ≤ (x70_8 : Int) := of_decide_eq_true (by first | (with_reducible assumption) | assumption)
                           have q506 : x70_8 < (l1.length : Int) := of_decide_eq_true (by first | (with_reducible assumption) | assumption)
                           obtain ⟨ad506, e506, hx506_0, hx506_1, hx506_2, hx506_3, hx506_4, hx506_5⟩ := at_T40 HR1.out x70_8 p506 q506
                           cases e506
                           replace hx506_0 := (HB.out.cell (World.block_lt_of_cell? w _ hx506_0)).trans hx506_0
                           replace hx506_1 := (HB.out.cell (World.block_lt_of_cell? w _ hx506_1)).trans hx506_1
                           replace hx506_2 := (HB.out.cell (World.block_lt_of_cell? w _ hx506_2)).trans hx506_2
                           replace hx506_3 := (HB.out.cell (World.block_lt_of_cell? w _ hx506_3)).trans hx506_3
                           replace hx506_4 := (HB.out.cell (World.block_lt_of_cell? w _ hx506_4)).trans hx506_4
                           replace hx506_5 := (HB.out.cell (World.block_lt_of_cell? w _ hx506_5)).trans hx506_5
                           replace p506 := eq_true p506
                           replace q506 := eq_true q506
                           go_wp2_with ((with_reducible refine gate_dst (N := 18) rfl ?_); refine Aside0.out (p := _) ?_)
                           refine ⟨?_⟩
                           refine box_event ?hg (N := 18) ?hd (cs := #[.int .i64 0, .int .i64 0, .int .i64 0, .int .i64 0, .int .i64 0, .int .i64 0]) (t := 40) ?hr ?_; (case hd => rfl); (case hg => rfl); (case hr => first | (go_simp; done) | (go_simp; rfl))
                           intro gb507 hg w63 hbox hb
                           have n0_ := Aside0.mk (Kd.R_below (by (with_reducible repeat (first | apply Kd.R_alloc | apply Kd.R_drewN | apply Kd.R_drew)); exact HO_11.out) hb)
                           have n1_ := Aside0.mk (Kd.R_below (by (with_reducible repeat (first | apply Kd.R_alloc | apply Kd.R_drewN | apply Kd.R_drew)); exact HO_13.out) hb)
                           have n2_ := Aside0.mk (below_step (by repeat (first | (with_reducible first | exact HB.out | apply below_alloc | apply pw_below_drewN | apply below_drew1) | exact HB.out)) hb)
                           have n3_ := Aside0.mk (hbox)
                           have n4_ := Aside0.mk ((by rw [hg]; exact (below_size (by repeat (first | (with_reducible first | exact HB.out | apply below_alloc | apply pw_below_drewN | apply below_drew1) | exact HB.out))) : w.heap.size ≤ gb507))
                           have n5_ := Aside0.mk ((by rw [hg]; exact (below_size (by repeat (first | (with_reducible first | exact HB.out | apply below_alloc | apply pw_below_drewN | apply below_drew1) | exact HB.out))) : w.heap.size ≤ gb507))
                           clear HO_11
                           clear HO_13
                           clear HB
                           have HO_11 := n0_
                           have HO_13 := n1_
                           have HB := n2_
                           have BK507 := n3_
                           have GW507 := n4_
                           have GE507 := n5_
                           clear n0_ n1_ n2_ n3_ n4_ n5_
                           clear hb hbox hg
                           have hcz64_0 : w63.cell? ⟨gb507, 0, none⟩ = some (.int .i64 0) := (blk_cell BK507.out 0).trans rfl
                           have hcz64_1 : w63.cell? ⟨gb507, 1, none⟩ = some (.int .i64 0) := (blk_cell BK507.out 1).trans rfl
                           have hcz64_2 : w63.cell? ⟨gb507, 2, none⟩ = some (.int .i64 0) := (blk_cell BK507.out 2).trans rfl
                           have hcz64_3 : w63.cell? ⟨gb507, 3, none⟩ = some (.int .i64 0) := (blk_cell BK507.out 3).trans rfl
                           have hcz64_4 : w63.cell? ⟨gb507, 4, none⟩ = some (.int .i64 0) := (blk_cell BK507.out 4).trans rfl
                           have hcz64_5 : w63.cell? ⟨gb507, 5, none⟩ = some (.int .i64 0) := (blk_cell BK507.out 5).trans rfl
                           have hfz64_0 := blk_frozen BK507.out 0
                           have hfz64_1 := blk_frozen BK507.out 1
                           have hfz64_2 := blk_frozen BK507.out 2
                           have hfz64_3 := blk_frozen BK507.out 3
                           have hfz64_4 := blk_frozen BK507.out 4
                           have hfz64_5 := blk_frozen BK507.out 5
                           go_wp2
                           have n0_ : Aside0 (Kd.R k47 47 ((((((w63.setCell ⟨gb507, 0, none⟩ (.int .i64 ((rd_T40 l1 x70_8).f0))).setCell ⟨gb507, 1, none⟩ (.int .i64 ((rd_T40 l1 x70_8).f1))).setCell ⟨gb507, 2, none⟩ (.int .i64 ((rd_T40 l1 x70_8).f2))).setCell ⟨gb507, 3, none⟩ (.int .i64 ((rd_T40 l1 x70_8).f3))).setCell ⟨gb507, 4, none⟩ (.int .i64 ((rd_T40 l1 x70_8).f4))).setCell ⟨gb507, 5, none⟩ (.int .i64 ((rd_T40 l1 x70_8).f5))) w.heap.size (fun k_ => some k_ ≠ (v497 : Value).ownBlock) (.slice Ao28 t491.length co28) t491) := ⟨by (with_reducible repeat (first | apply Kd.R_alloc | apply Kd.R_drewN | apply Kd.R_drew)); exact Kd.R_mono (Kd.R_far (p := ⟨gb507, 5, none⟩) (Kd.R_far (p := ⟨gb507, 4, none⟩) (Kd.R_far (p := ⟨gb507, 3, none⟩) (Kd.R_far (p := ⟨gb507, 2, none⟩) (Kd.R_far (p := ⟨gb507, 1, none⟩) (Kd.R_far (p := ⟨gb507, 0, none⟩) (Kd.R_types HO_11.out BK507.out (by decide)) (fun _ hk => hk.2) (.int .i64 ((rd_T40 l1 x70_8).f0))) (fun _ hk => hk.2) (.int .i64 ((rd_T40 l1 x70_8).f1))) (fun _ hk => hk.2) (.int .i64 ((rd_T40 l1 x70_8).f2))) (fun _ hk => hk.2) (.int .i64 ((rd_T40 l1 x70_8).f3))) (fun _ hk => hk.2) (.int .i64 ((rd_T40 l1 x70_8).f4))) (fun _ hk => hk.2) (.int .i64 ((rd_T40 l1 x70_8).f5))) (fun _ hk => hk.1)⟩
                           have n1_ : Aside0 (Kd.R k47 47 ((((((w63.setCell ⟨gb507, 0, none⟩ (.int .i64 ((rd_T40 l1 x70_8).f0))).setCell ⟨gb507, 1, none⟩ (.int .i64 ((rd_T40 l1 x70_8).f1))).setCell ⟨gb507, 2, none⟩ (.int .i64 ((rd_T40 l1 x70_8).f2))).setCell ⟨gb507, 3, none⟩ (.int .i64 ((rd_T40 l1 x70_8).f3))).setCell ⟨gb507, 4, none⟩ (.int .i64 ((rd_T40 l1 x70_8).f4))).setCell ⟨gb507, 5, none⟩ (.int .i64 ((rd_T40 l1 x70_8).f5))) w.heap.size (fun k_ => some k_ ≠ (.slice Ao28 t491.length co28 : Value).ownBlock) v497 t495) := ⟨by (with_reducible repeat (first | apply Kd.R_alloc | apply Kd.R_drewN | apply Kd.R_drew)); exact Kd.R_mono (Kd.R_far (p := ⟨gb507, 5, none⟩) (Kd.R_far (p := ⟨gb507, 4, none⟩) (Kd.R_far (p := ⟨gb507, 3, none⟩) (Kd.R_far (p := ⟨gb507, 2, none⟩) (Kd.R_far (p := ⟨gb507, 1, none⟩) (Kd.R_far (p := ⟨gb507, 0, none⟩) (Kd.R_types HO_13.out BK507.out (by decide)) (fun _ hk => hk.2) (.int .i64 ((rd_T40 l1 x70_8).f0))) (fun _ hk => hk.2) (.int .i64 ((rd_T40 l1 x70_8).f1))) (fun _ hk => hk.2) (.int .i64 ((rd_T40 l1 x70_8).f2))) (fun _ hk => hk.2) (.int .i64 ((rd_T40 l1 x70_8).f3))) (fun _ hk => hk.2) (.int .i64 ((rd_T40 l1 x70_8).f4))) (fun _ hk => hk.2) (.int .i64 ((rd_T40 l1 x70_8).f5))) (fun _ hk => hk.1)⟩
                           have n2_ : Aside0 (((((((w63.setCell ⟨gb507, 0, none⟩ (.int .i64 ((rd_T40 l1 x70_8).f0))).setCell ⟨gb507, 1, none⟩ (.int .i64 ((rd_T40 l1 x70_8).f1))).setCell ⟨gb507, 2, none⟩ (.int .i64 ((rd_T40 l1 x70_8).f2))).setCell ⟨gb507, 3, none⟩ (.int .i64 ((rd_T40 l1 x70_8).f3))).setCell ⟨gb507, 4, none⟩ (.int .i64 ((rd_T40 l1 x70_8).f4))).setCell ⟨gb507, 5, none⟩ (.int .i64 ((rd_T40 l1 x70_8).f5))).heap[gb507]? = some (.cells #[.int .i64 ((rd_T40 l1 x70_8).f0), .int .i64 ((rd_T40 l1 x70_8).f1), .int .i64 ((rd_T40 l1 x70_8).f2), .int .i64 ((rd_T40 l1 x70_8).f3), .int .i64 ((rd_T40 l1 x70_8).f4), .int .i64 ((rd_T40 l1 x70_8).f5)] 40 (0, 0))) := ⟨by (with_reducible repeat (first | refine blk_drewN ?_ _ | refine blk_drew ?_ | refine blk_alloc ?_ _)); refine blk_put (cs := #[.int .i64 ((rd_T40 l1 x70_8).f0), .int .i64 ((rd_T40 l1 x70_8).f1), .int .i64 ((rd_T40 l1 x70_8).f2), .int .i64 ((rd_T40 l1 x70_8).f3), .int .i64 ((rd_T40 l1 x70_8).f4), .int .i64 0]) ?_ 5 _ rfl; (with_reducible repeat (first | refine blk_drewN ?_ _ | refine blk_drew ?_ | refine blk_alloc ?_ _)); refine blk_put (cs := #[.int .i64 ((rd_T40 l1 x70_8).f0), .int .i64 ((rd_T40 l1 x70_8).f1), .int .i64 ((rd_T40 l1 x70_8).f2), .int .i64 ((rd_T40 l1 x70_8).f3), .int .i64 0, .int .i64 0]) ?_ 4 _ rfl; (with_reducible repeat (first | refine blk_drewN ?_ _ | refine blk_drew ?_ | refine blk_alloc ?_ _)); refine blk_put (cs := #[.int .i64 ((rd_T40 l1 x70_8).f0), .int .i64 ((rd_T40 l1 x70_8).f1), .int .i64 ((rd_T40 l1 x70_8).f2), .int .i64 0, .int .i64 0, .int .i64 0]) ?_ 3 _ rfl; (with_reducible repeat (first | refine blk_drewN ?_ _ | refine blk_drew ?_ | refine blk_alloc ?_ _)); refine blk_put (cs := #[.int .i64 ((rd_T40 l1 x70_8).f0), .int .i64 ((rd_T40 l1 x70_8).f1), .int .i64 0, .int .i64 0, .int .i64 0, .int .i64 0]) ?_ 2 _ rfl; (with_reducible repeat (first | refine blk_drewN ?_ _ | refine blk_drew ?_ | refine blk_alloc ?_ _)); refine blk_put (cs := #[.int .i64 ((rd_T40 l1 x70_8).f0), .int .i64 0, .int .i64 0, .int .i64 0, .int .i64 0, .int .i64 0]) ?_ 1 _ rfl; (with_reducible repeat (first | refine blk_drewN ?_ _ | refine blk_drew ?_ | refine blk_alloc ?_ _)); refine blk_put (cs := #[.int .i64 0, .int .i64 0, .int .i64 0, .int .i64 0, .int .i64 0, .int .i64 0]) ?_ 0 _ rfl; (with_reducible repeat (first | refine blk_drewN ?_ _ | refine blk_drew ?_ | refine blk_alloc ?_ _)); exact BK507.out⟩
                           have n3_ : Aside0 (Below w.heap.size w ((((((w63.setCell ⟨gb507, 0, none⟩ (.int .i64 ((rd_T40 l1 x70_8).f0))).setCell ⟨gb507, 1, none⟩ (.int .i64 ((rd_T40 l1 x70_8).f1))).setCell ⟨gb507, 2, none⟩ (.int .i64 ((rd_T40 l1 x70_8).f2))).setCell ⟨gb507, 3, none⟩ (.int .i64 ((rd_T40 l1 x70_8).f3))).setCell ⟨gb507, 4, none⟩ (.int .i64 ((rd_T40 l1 x70_8).f4))).setCell ⟨gb507, 5, none⟩ (.int .i64 ((rd_T40 l1 x70_8).f5)))) := ⟨by repeat (first | (with_reducible first | exact HB.out | apply below_alloc | apply pw_below_drewN | apply below_drew1 | refine below_set ?_ GE507.out) | exact HB.out)⟩
                           (try clear HO_11)
                           (try clear HO_13)
                           (try clear BK507)
                           (try clear HB)
                           generalize ((((((w63.setCell ⟨gb507, 0, none⟩ (.int .i64 ((rd_T40 l1 x70_8).f0))).setCell ⟨gb507, 1, none⟩ (.int .i64 ((rd_T40 l1 x70_8).f1))).setCell ⟨gb507, 2, none⟩ (.int .i64 ((rd_T40 l1 x70_8).f2))).setCell ⟨gb507, 3, none⟩ (.int .i64 ((rd_T40 l1 x70_8).f3))).setCell ⟨gb507, 4, none⟩ (.int .i64 ((rd_T40 l1 x70_8).f4))).setCell ⟨gb507, 5, none⟩ (.int .i64 ((rd_T40 l1 x70_8).f5))) = w65 at n0_ n1_ n2_ n3_ ⊢
                           have HO_11 := n0_
                           have HO_13 := n1_
                           have BK507 := n2_
                           have HB := n3_
                           clear n0_ n1_ n2_ n3_
                           have n0_ := Aside0.mk (Kd.R_drew HO_11.out)
                           have n1_ := Aside0.mk (Kd.R_drew HO_13.out)
                           have n2_ := Aside0.mk (blk_drew BK507.out)
                           have n3_ := Aside0.mk (below_drew1 HB.out)
                           clear HO_11
                           clear HO_13
                           clear BK507
                           clear HB
                           have HO_11 := n0_
                           have HO_13 := n1_
                           have BK507 := n2_
                           have HB := n3_
                           clear n0_ n1_ n2_ n3_
                           have p511 : 0 ≤ (x65_6 : Int) := of_decide_eq_true (by first | (with_reducible assumption) | assumption)
                           have q511 : x65_6 < (t491.length : Int) := of_decide_eq_true (by first | (with_reducible assumption) | assumption)
                           obtain ⟨ad511, e511, hx511_0, hx511_1, hx511_2, hx511_3⟩ := at_T47 (Kd.R_reads' HO_11.out).2.2 x65_6 p511 q511
                           cases e511
                           replace p511 := eq_true p511
                           replace q511 := eq_true q511
                           refine start_ (n := 28) (S := fun w' => w'.cell? ⟨gb507, 0, none⟩ = some (.int .i64 ((rd_T40 l1 x70_8).f0)) ∧ w'.cell? ⟨gb507, 1, none⟩ = some (.int .i64 ((rd_T40 l1 x70_8).f1)) ∧ w'.cell? ⟨gb507, 2, none⟩ = some (.int .i64 ((rd_T40 l1 x70_8).f2)) ∧ w'.cell? ⟨gb507, 3, none⟩ = some (.int .i64 ((rd_T40 l1 x70_8).f3)) ∧ w'.cell? ⟨gb507, 4, none⟩ = some (.int .i64 ((rd_T40 l1 x70_8).f4)) ∧ w'.cell? ⟨gb507, 5, none⟩ = some (.int .i64 ((rd_T40 l1 x70_8).f5)) ∧ w'.cell? (ad511.add ((x65_6).toNat * 4)) = some (.int .i64 ((rd_T47 t491 x65_6).f0)) ∧ w'.cell? ⟨(ad511.add ((x65_6).toNat * 4)).block, (ad511.add ((x65_6).toNat * 4)).off + 1, none⟩ = some (.int .i64 ((rd_T47 t491 x65_6).f1)) ∧ w'.cell? ⟨(ad511.add ((x65_6).toNat * 4)).block, (ad511.add ((x65_6).toNat * 4)).off + 2, none⟩ = some (.int .i64 ((rd_T47 t491 x65_6).f2)) ∧ w'.cell? ⟨(ad511.add ((x65_6).toNat * 4)).block, (ad511.add ((x65_6).toNat * 4)).off + 3, none⟩ = some (.bool ((rd_T47 t491 x65_6).f3))) (ds := []) #[false, false, false, false, false, false, false, false, false, false, false, false, false, false, false, false, false, false, false, false, false, false, false, false, false, false, false, false] (by kernel_rfl) rfl rfl ⟨(blk_cell BK507.out 0).trans rfl, (blk_cell BK507.out 1).trans rfl, (blk_cell BK507.out 2).trans rfl, (blk_cell BK507.out 3).trans rfl, (blk_cell BK507.out 4).trans rfl, (blk_cell BK507.out 5).trans rfl, hx511_0, hx511_1, hx511_2, hx511_3⟩ (fun hHeld => ?_); refine with_tabW testamurlaw42_DevicesStale.tab17 testamurlaw42_DevicesStale.bits17 (fun HT_ HW_ => ?_)
                           generalize w65.drew = w66 at HO_11 HO_13 BK507 HB hx511_0 hx511_1 hx511_2 hx511_3 hHeld ⊢
                           refine pure_ (i := 0) (N := some 74) (v := ?_) (a' := ?_) #[true, false, false, false, false, false, false, false, false, false, false, false, false, false, false, false, false, false, false, false, false, false, false, false, false, false, false, false] rfl rfl (any_of HT_.out (by kernel_rfl)) (fun _ _ _ h => h) (Or.inl ⟨by rfl, ?_⟩) ?_ ?_
                           rotate_left
                           ·intro w'
                            go_simp
                            with_reducible rfl
                           rotate_left
                           ·simp only [Act.put, List.setIfInBounds_toArray, List.set_cons_zero, List.set_cons_succ, i64_w, i32_w]
                            rfl
                           refine pure_ (i := 2) (N := some 76) (v := ?_) (a' := ?_) #[true, false, true, false, false, false, false, false, false, false, false, false, false, false, false, false, false, false, false, false, false, false, false, false, false, false, false, false] rfl rfl (any_of HT_.out (by kernel_rfl)) (fun _ _ _ h => h) (Or.inl ⟨by rfl, ?_⟩) ?_ ?_
                           rotate_left
                           ·intro w'
                            go_simp
                            with_reducible rfl
                           rotate_left
                           ·simp only [Act.put, List.setIfInBounds_toArray, List.set_cons_zero, List.set_cons_succ, i64_w, i32_w]
                            rfl
                           refine take_ (i := 1) (N := some 75) (v := ?_) (a' := ?_) #[true, true, true, false, false, false, false, false, false, false, false, false, false, false, false, false, false, false, false, false, false, false, false, false, false, false, false, false] rfl rfl (take_ofW HT_.out HW_.out (by kernel_rfl)) (fun _ _ _ h => h) (Or.inl ⟨by rfl, ?_⟩) hHeld ?_ ?_
                           rotate_left
                           ·rintro w' ⟨s0, s1, s2, s3, s4, s5, s6, s7, s8, s9⟩
                            go_simp
                            with_reducible rfl
                           rotate_left
                           ·simp only [Act.put, List.setIfInBounds_toArray, List.set_cons_zero, List.set_cons_succ, i64_w, i32_w]
                            rfl
                           refine pure_ (i := 3) (N := some 77) (v := ?_) (a' := ?_) #[true, true, true, true, false, false, false, false, false, false, false, false, false, false, false, false, false, false, false, false, false, false, false, false, false, false, false, false] rfl rfl (any_of HT_.out (by kernel_rfl)) (fun _ _ _ h => h) (Or.inl ⟨by rfl, ?_⟩) ?_ ?_
                           rotate_left
                           ·intro w'
                            go_simp
                            with_reducible rfl
                           rotate_left
                           ·simp only [Act.put, List.setIfInBounds_toArray, List.set_cons_zero, List.set_cons_succ, i64_w, i32_w]
                            rfl
                           refine pure_ (i := 4) (N := some 78) (v := ?_) (a' := ?_) #[true, true, true, true, true, false, false, false, false, false, false, false, false, false, false, false, false, false, false, false, false, false, false, false, false, false, false, false] rfl rfl (any_of HT_.out (by kernel_rfl)) (fun _ _ _ h => h) (Or.inl ⟨by rfl, ?_⟩) ?_ ?_
                           rotate_left
                           ·intro w'
                            go_simp
                            with_reducible rfl
                           rotate_left
                           ·simp only [Act.put, List.setIfInBounds_toArray, List.set_cons_zero, List.set_cons_succ, i64_w, i32_w]
                            rfl
                           refine pure_ (i := 5) (N := some 79) (v := ?_) (a' := ?_) #[true, true, true, true, true, true, false, false, false, false, false, false, false, false, false, false, false, false, false, false, false, false, false, false, false, false, false, false] rfl rfl (any_of HT_.out (by kernel_rfl)) (fun _ _ _ h => h) (Or.inl ⟨by rfl, ?_⟩) ?_ ?_
                           rotate_left
                           ·intro w'
                            go_simp
                            with_reducible rfl
                           rotate_left
                           ·simp only [Act.put, List.setIfInBounds_toArray, List.set_cons_zero, List.set_cons_succ, i64_w, i32_w]
                            rfl
                           refine take_ (i := 6) (N := some 80) (v := ?_) (a' := ?_) #[true, true, true, true, true, true, true, false, false, false, false, false, false, false, false, false, false, false, false, false, false, false, false, false, false, false, false, false] rfl rfl (take_ofW HT_.out HW_.out (by kernel_rfl)) (fun _ _ _ h => h) (Or.inl ⟨by rfl, ?_⟩) hHeld ?_ ?_
                           rotate_left
                           ·rintro w' ⟨s0, s1, s2, s3, s4, s5, s6, s7, s8, s9⟩
                            go_simp
                            with_reducible rfl
                           rotate_left
                           ·simp only [Act.put, List.setIfInBounds_toArray, List.set_cons_zero, List.set_cons_succ, i64_w, i32_w]
                            rfl
                           refine one_ (i := 7) (N := some 81) #[true, true, true, true, true, true, true, true, false, false, false, false, false, false, false, false, false, false, false, false, false, false, false, false, false, false, false, false] rfl rfl (one_of HT_.out (by kernel_rfl)) (by decide) (fun K hK => ?_)
                           refine goes_ Try.func37 (by kernel_rfl) rfl #[.slice A0 l0.length c0, .agg #[.int .i64 ((rd_T40 l1 x70_8).f0), .int .i64 ((rd_T40 l1 x70_8).f1), .int .i64 ((rd_T40 l1 x70_8).f2), .int .i64 ((rd_T40 l1 x70_8).f3), .int .i64 ((rd_T40 l1 x70_8).f4), .int .i64 ((rd_T40 l1 x70_8).f5)]] (by rfl) rfl rfl (by (try simp only [List.map_toArray, List.map_cons, List.map_nil]); first | done | rfl | (simp only [List.length_drop, List.length_take]; rfl)) ?_
                           with_reducible refine (testamurref42_Has.calls kj30 _ _ l0 ((rd_T40 l1 x70_8).f0) ((rd_T40 l1 x70_8).f1) ((rd_T40 l1 x70_8).f2) ((rd_T40 l1 x70_8).f3) ((rd_T40 l1 x70_8).f4) ((rd_T40 l1 x70_8).f5) false _ ?side1 ?side2 A46.out).mono ?_
                           (case side1 => repeat (first | exact (Kd.C_below HR0.out HB.out) | (with_reducible refine Kd.C_alloc ?_ _) | (with_reducible refine Kd.C_drewN ?_ _) | (with_reducible refine Kd.C_drew ?_)))
                           (case side2 => exact HC0.out)
                           rintro e w67 ⟨rfl, hb⟩
                           have HS6_ := (hb.cell (World.block_lt_of_cell? _ _ (hHeld.2.2.2.2.2.2.1))).trans (hHeld.2.2.2.2.2.2.1)
                           have HS7_ := (hb.cell (World.block_lt_of_cell? _ _ (hHeld.2.2.2.2.2.2.2.1))).trans (hHeld.2.2.2.2.2.2.2.1)
                           have HS8_ := (hb.cell (World.block_lt_of_cell? _ _ (hHeld.2.2.2.2.2.2.2.2.1))).trans (hHeld.2.2.2.2.2.2.2.2.1)
                           have HS9_ := (hb.cell (World.block_lt_of_cell? _ _ (hHeld.2.2.2.2.2.2.2.2.2))).trans (hHeld.2.2.2.2.2.2.2.2.2)
                           refine ⟨_, rfl, ?_⟩
                           have n0_ := Aside0.mk (Kd.R_below (by (with_reducible repeat (first | apply Kd.R_alloc | apply Kd.R_drewN | apply Kd.R_drew)); exact HO_11.out) hb)
                           have n1_ := Aside0.mk (Kd.R_below (by (with_reducible repeat (first | apply Kd.R_alloc | apply Kd.R_drewN | apply Kd.R_drew)); exact HO_13.out) hb)
                           have n2_ := Aside0.mk (blk_below (g := gb507) (o := .cells #[.int .i64 ((rd_T40 l1 x70_8).f0), .int .i64 ((rd_T40 l1 x70_8).f1), .int .i64 ((rd_T40 l1 x70_8).f2), .int .i64 ((rd_T40 l1 x70_8).f3), .int .i64 ((rd_T40 l1 x70_8).f4), .int .i64 ((rd_T40 l1 x70_8).f5)] 40 (0, 0)) (by (with_reducible repeat (first | refine blk_drewN ?_ _ | refine blk_drew ?_ | refine blk_alloc ?_ _)); exact BK507.out) hb)
                           have n3_ := Aside0.mk (below_step (by repeat (first | (with_reducible first | exact HB.out | apply below_alloc | apply pw_below_drewN | apply below_drew1 | refine below_set ?_ GE507.out) | exact HB.out)) hb)
                           clear HO_11
                           clear HO_13
                           clear BK507
                           clear HB
                           have HO_11 := n0_
                           have HO_13 := n1_
                           have BK507 := n2_
                           have HB := n3_
                           clear n0_ n1_ n2_ n3_
                           (try clear hb)
                           (try clear hb2)
                           (try clear hk)
                           (try clear hi)
                           refine hK.out _ _ ⟨(blk_cell BK507.out 0).trans rfl, (blk_cell BK507.out 1).trans rfl, (blk_cell BK507.out 2).trans rfl, (blk_cell BK507.out 3).trans rfl, (blk_cell BK507.out 4).trans rfl, (blk_cell BK507.out 5).trans rfl, HS6_, HS7_, HS8_, HS9_⟩ (fun hHeld => ?_)
                           clear hK K
                           refine norm_ (a' := ?_) ?_ ?_
                           rotate_left
                           ·show Act.put _ (some 81) _ = _
                            simp only [Act.put, List.setIfInBounds_toArray, List.set_cons_zero, List.set_cons_succ, i64_w, i32_w]
                            rfl
                           refine pure_ (i := 8) (N := some 82) (v := ?_) (a' := ?_) #[true, true, true, true, true, true, true, true, true, false, false, false, false, false, false, false, false, false, false, false, false, false, false, false, false, false, false, false] rfl rfl (any_of HT_.out (by kernel_rfl)) (fun _ _ _ h => h) (Or.inl ⟨by rfl, ?_⟩) ?_ ?_
                           rotate_left
                           ·intro w'
                            go_simp
                            with_reducible rfl
                           rotate_left
                           ·simp only [Act.put, List.setIfInBounds_toArray, List.set_cons_zero, List.set_cons_succ, i64_w, i32_w]
                            rfl
                           refine pure_ (i := 9) (N := some 83) (v := ?_) (a' := ?_) #[true, true, true, true, true, true, true, true, true, true, false, false, false, false, false, false, false, false, false, false, false, false, false, false, false, false, false, false] rfl rfl (any_of HT_.out (by kernel_rfl)) (fun _ _ _ h => h) (Or.inl ⟨by rfl, ?_⟩) ?_ ?_
                           rotate_left
                           ·intro w'
                            go_simp
                            with_reducible rfl
                           rotate_left
                           ·simp only [Act.put, List.setIfInBounds_toArray, List.set_cons_zero, List.set_cons_succ, i64_w, i32_w]
                            rfl
                           refine pure_ (i := 10) (N := some 84) (v := ?_) (a' := ?_) #[true, true, true, true, true, true, true, true, true, true, true, false, false, false, false, false, false, false, false, false, false, false, false, false, false, false, false, false] rfl rfl (any_of HT_.out (by kernel_rfl)) (fun _ _ _ h => h) (Or.inl ⟨by rfl, ?_⟩) ?_ ?_
                           rotate_left
                           ·intro w'
                            go_simp
                            with_reducible rfl
                           rotate_left
                           ·simp only [Act.put, List.setIfInBounds_toArray, List.set_cons_zero, List.set_cons_succ, i64_w, i32_w]
                            rfl
                           refine pure_ (i := 11) (N := some 85) (v := ?_) (a' := ?_) #[true, true, true, true, true, true, true, true, true, true, true, true, false, false, false, false, false, false, false, false, false, false, false, false, false, false, false, false] rfl rfl (any_of HT_.out (by kernel_rfl)) (fun _ _ _ h => h) (Or.inl ⟨by rfl, ?_⟩) ?_ ?_
                           rotate_left
                           ·intro w'
                            go_simp
                            with_reducible rfl
                           rotate_left
                           ·simp only [Act.put, List.setIfInBounds_toArray, List.set_cons_zero, List.set_cons_succ, i64_w, i32_w]
                            rfl
                           refine pure_ (i := 13) (N := some 87) (v := ?_) (a' := ?_) #[true, true, true, true, true, true, true, true, true, true, true, true, false, true, false, false, false, false, false, false, false, false, false, false, false, false, false, false] rfl rfl (any_of HT_.out (by kernel_rfl)) (fun _ _ _ h => h) (Or.inl ⟨by rfl, ?_⟩) ?_ ?_
                           rotate_left
                           ·intro w'
                            go_simp
                            with_reducible rfl
                           rotate_left
                           ·simp only [Act.put, List.setIfInBounds_toArray, List.set_cons_zero, List.set_cons_succ, i64_w, i32_w]
                            rfl
                           refine pure_ (i := 14) (N := some 88) (v := ?_) (a' := ?_) #[true, true, true, true, true, true, true, true, true, true, true, true, false, true, true, false, false, false, false, false, false, false, false, false, false, false, false, false] rfl rfl (any_of HT_.out (by kernel_rfl)) (fun _ _ _ h => h) (Or.inl ⟨by rfl, ?_⟩) ?_ ?_
                           rotate_left
                           ·intro w'
                            go_simp
                            with_reducible rfl
                           rotate_left
                           ·simp only [Act.put, List.setIfInBounds_toArray, List.set_cons_zero, List.set_cons_succ, i64_w, i32_w]
                            rfl
                           refine pure_ (i := 15) (N := some 89) (v := ?_) (a' := ?_) #[true, true, true, true, true, true, true, true, true, true, true, true, false, true, true, true, false, false, false, false, false, false, false, false, false, false, false, false] rfl rfl (any_of HT_.out (by kernel_rfl)) (fun _ _ _ h => h) (Or.inl ⟨by rfl, ?_⟩) ?_ ?_
                           rotate_left
                           ·intro w'
                            go_simp
                            with_reducible rfl
                           rotate_left
                           ·simp only [Act.put, List.setIfInBounds_toArray, List.set_cons_zero, List.set_cons_succ, i64_w, i32_w]
                            rfl
                           refine pure_ (i := 16) (N := some 90) (v := ?_) (a' := ?_) #[true, true, true, true, true, true, true, true, true, true, true, true, false, true, true, true, true, false, false, false, false, false, false, false, false, false, false, false] rfl rfl (any_of HT_.out (by kernel_rfl)) (fun _ _ _ h => h) (Or.inl ⟨by rfl, ?_⟩) ?_ ?_
                           rotate_left
                           ·intro w'
                            go_simp
                            with_reducible rfl
                           rotate_left
                           ·simp only [Act.put, List.setIfInBounds_toArray, List.set_cons_zero, List.set_cons_succ, i64_w, i32_w]
                            rfl
                           refine take_ (i := 12) (N := some 86) (v := ?_) (a' := ?_) #[true, true, true, true, true, true, true, true, true, true, true, true, true, true, true, true, true, false, false, false, false, false, false, false, false, false, false, false] rfl rfl (take_ofW HT_.out HW_.out (by kernel_rfl)) (fun _ _ _ h => h) (Or.inl ⟨by rfl, ?_⟩) hHeld ?_ ?_
                           rotate_left
                           ·rintro w' ⟨s0, s1, s2, s3, s4, s5, s6, s7, s8, s9⟩
                            go_simp
                            with_reducible rfl
                           rotate_left
                           ·simp only [Act.put, List.setIfInBounds_toArray, List.set_cons_zero, List.set_cons_succ, i64_w, i32_w]
                            rfl
                           refine take_ (i := 17) (N := some 91) (v := ?_) (a' := ?_) #[true, true, true, true, true, true, true, true, true, true, true, true, true, true, true, true, true, true, false, false, false, false, false, false, false, false, false, false] rfl rfl (take_ofW HT_.out HW_.out (by kernel_rfl)) (fun _ _ _ h => h) (Or.inl ⟨by rfl, ?_⟩) hHeld ?_ ?_
                           rotate_left
                           ·rintro w' ⟨s0, s1, s2, s3, s4, s5, s6, s7, s8, s9⟩
                            go_simp
                            with_reducible rfl
                           rotate_left
                           ·simp only [Act.put, List.setIfInBounds_toArray, List.set_cons_zero, List.set_cons_succ, i64_w, i32_w]
                            rfl
                           refine pure_ (i := 18) (N := some 92) (v := ?_) (a' := ?_) #[true, true, true, true, true, true, true, true, true, true, true, true, true, true, true, true, true, true, true, false, false, false, false, false, false, false, false, false] rfl rfl (any_of HT_.out (by kernel_rfl)) (fun _ _ _ h => h) (Or.inl ⟨by rfl, ?_⟩) ?_ ?_
                           rotate_left
                           ·intro w'
                            go_simp
                            with_reducible rfl
                           rotate_left
                           ·simp only [Act.put, List.setIfInBounds_toArray, List.set_cons_zero, List.set_cons_succ, i64_w, i32_w]
                            rfl
                           refine pure_ (i := 19) (N := some 93) (v := ?_) (a' := ?_) #[true, true, true, true, true, true, true, true, true, true, true, true, true, true, true, true, true, true, true, true, false, false, false, false, false, false, false, false] rfl rfl (any_of HT_.out (by kernel_rfl)) (fun _ _ _ h => h) (Or.inl ⟨by rfl, ?_⟩) ?_ ?_
                           rotate_left
                           ·intro w'
                            go_simp
                            with_reducible rfl
                           rotate_left
                           ·simp only [Act.put, List.setIfInBounds_toArray, List.set_cons_zero, List.set_cons_succ, i64_w, i32_w]
                            rfl
                           refine pure_ (i := 20) (N := some 94) (v := ?_) (a' := ?_) #[true, true, true, true, true, true, true, true, true, true, true, true, true, true, true, true, true, true, true, true, true, false, false, false, false, false, false, false] rfl rfl (any_of HT_.out (by kernel_rfl)) (fun _ _ _ h => h) (Or.inl ⟨by rfl, ?_⟩) ?_ ?_
                           rotate_left
                           ·intro w'
                            go_simp
                            with_reducible rfl
                           rotate_left
                           ·simp only [Act.put, List.setIfInBounds_toArray, List.set_cons_zero, List.set_cons_succ, i64_w, i32_w]
                            rfl
                           refine pure_ (i := 21) (N := some 95) (v := ?_) (a' := ?_) #[true, true, true, true, true, true, true, true, true, true, true, true, true, true, true, true, true, true, true, true, true, true, false, false, false, false, false, false] rfl rfl (any_of HT_.out (by kernel_rfl)) (fun _ _ _ h => h) (Or.inl ⟨by rfl, ?_⟩) ?_ ?_
                           rotate_left
                           ·intro w'
                            go_simp
                            with_reducible rfl
                           rotate_left
                           ·simp only [Act.put, List.setIfInBounds_toArray, List.set_cons_zero, List.set_cons_succ, i64_w, i32_w]
                            rfl
                           refine pure_ (i := 22) (N := some 96) (v := ?_) (a' := ?_) #[true, true, true, true, true, true, true, true, true, true, true, true, true, true, true, true, true, true, true, true, true, true, true, false, false, false, false, false] rfl rfl (any_of HT_.out (by kernel_rfl)) (fun _ _ _ h => h) (Or.inl ⟨by rfl, ?_⟩) ?_ ?_
                           rotate_left
                           ·intro w'
                            go_simp
                            with_reducible rfl
                           rotate_left
                           ·simp only [Act.put, List.setIfInBounds_toArray, List.set_cons_zero, List.set_cons_succ, i64_w, i32_w]
                            rfl
                           refine pure_ (i := 23) (N := some 97) (v := ?_) (a' := ?_) #[true, true, true, true, true, true, true, true, true, true, true, true, true, true, true, true, true, true, true, true, true, true, true, true, false, false, false, false] rfl rfl (any_of HT_.out (by kernel_rfl)) (fun _ _ _ h => h) (Or.inl ⟨by rfl, ?_⟩) ?_ ?_
                           rotate_left
                           ·intro w'
                            go_simp
                            with_reducible rfl
                           rotate_left
                           ·simp only [Act.put, List.setIfInBounds_toArray, List.set_cons_zero, List.set_cons_succ, i64_w, i32_w]
                            rfl
                           refine take_ (i := 24) (N := some 98) (v := ?_) (a' := ?_) #[true, true, true, true, true, true, true, true, true, true, true, true, true, true, true, true, true, true, true, true, true, true, true, true, true, false, false, false] rfl rfl (take_ofW HT_.out HW_.out (by kernel_rfl)) (fun _ _ _ h => h) (Or.inl ⟨by rfl, ?_⟩) hHeld ?_ ?_
                           rotate_left
                           ·rintro w' ⟨s0, s1, s2, s3, s4, s5, s6, s7, s8, s9⟩
                            go_simp
                            with_reducible rfl
                           rotate_left
                           ·simp only [Act.put, List.setIfInBounds_toArray, List.set_cons_zero, List.set_cons_succ, i64_w, i32_w]
                            rfl
                           refine one_ (i := 25) (N := some 99) #[true, true, true, true, true, true, true, true, true, true, true, true, true, true, true, true, true, true, true, true, true, true, true, true, true, true, false, false] rfl rfl (one_of HT_.out (by kernel_rfl)) (by decide) (fun K hK => ?_)
                           refine goes_ Try.func38 (by kernel_rfl) rfl #[.slice A0 l0.length c0, .int .i64 x65_6, .int .i64 a3, .int .i64 ((rd_T40 l1 x70_8).f0)] (by rfl) rfl rfl (by (try simp only [List.map_toArray, List.map_cons, List.map_nil]); first | done | rfl | (simp only [List.length_drop, List.length_take]; rfl)) ?_
                           with_reducible refine (testamurlaw42_had.calls kj30 _ _ l0 x65_6 a3 ((rd_T40 l1 x70_8).f0) true _ ?side1 ?side2 A61.out).mono ?_
                           (case side1 => repeat (first | exact (Kd.C_below HR0.out HB.out) | (with_reducible refine Kd.C_alloc ?_ _) | (with_reducible refine Kd.C_drewN ?_ _) | (with_reducible refine Kd.C_drew ?_)))
                           (case side2 => exact HC0.out)
                           rintro e w68 ⟨rfl, hb⟩
                           have HS6_ := (hb.cell (World.block_lt_of_cell? _ _ (hHeld.2.2.2.2.2.2.1))).trans (hHeld.2.2.2.2.2.2.1)
                           have HS7_ := (hb.cell (World.block_lt_of_cell? _ _ (hHeld.2.2.2.2.2.2.2.1))).trans (hHeld.2.2.2.2.2.2.2.1)
                           have HS8_ := (hb.cell (World.block_lt_of_cell? _ _ (hHeld.2.2.2.2.2.2.2.2.1))).trans (hHeld.2.2.2.2.2.2.2.2.1)
                           have HS9_ := (hb.cell (World.block_lt_of_cell? _ _ (hHeld.2.2.2.2.2.2.2.2.2))).trans (hHeld.2.2.2.2.2.2.2.2.2)
                           refine ⟨_, rfl, ?_⟩
                           have n0_ := Aside0.mk (Kd.R_below (by (with_reducible repeat (first | apply Kd.R_alloc | apply Kd.R_drewN | apply Kd.R_drew)); exact HO_11.out) hb)
                           have n1_ := Aside0.mk (Kd.R_below (by (with_reducible repeat (first | apply Kd.R_alloc | apply Kd.R_drewN | apply Kd.R_drew)); exact HO_13.out) hb)
                           have n2_ := Aside0.mk (blk_below (g := gb507) (o := .cells #[.int .i64 ((rd_T40 l1 x70_8).f0), .int .i64 ((rd_T40 l1 x70_8).f1), .int .i64 ((rd_T40 l1 x70_8).f2), .int .i64 ((rd_T40 l1 x70_8).f3), .int .i64 ((rd_T40 l1 x70_8).f4), .int .i64 ((rd_T40 l1 x70_8).f5)] 40 (0, 0)) (by (with_reducible repeat (first | refine blk_drewN ?_ _ | refine blk_drew ?_ | refine blk_alloc ?_ _)); exact BK507.out) hb)
                           have n3_ := Aside0.mk (below_step (by repeat (first | (with_reducible first | exact HB.out | apply below_alloc | apply pw_below_drewN | apply below_drew1 | refine below_set ?_ GE507.out) | exact HB.out)) hb)
                           clear HO_11
                           clear HO_13
                           clear BK507
                           clear HB
                           have HO_11 := n0_
                           have HO_13 := n1_
                           have BK507 := n2_
                           have HB := n3_
                           clear n0_ n1_ n2_ n3_
                           (try clear hb)
                           (try clear hb2)
                           (try clear hk)
                           (try clear hi)
                           refine hK.out _ _ ⟨(blk_cell BK507.out 0).trans rfl, (blk_cell BK507.out 1).trans rfl, (blk_cell BK507.out 2).trans rfl, (blk_cell BK507.out 3).trans rfl, (blk_cell BK507.out 4).trans rfl, (blk_cell BK507.out 5).trans rfl, HS6_, HS7_, HS8_, HS9_⟩ (fun hHeld => ?_)
                           clear hK K
                           refine norm_ (a' := ?_) ?_ ?_
                           rotate_left
                           ·show Act.put _ (some 99) _ = _
                            simp only [Act.put, List.setIfInBounds_toArray, List.set_cons_zero, List.set_cons_succ, i64_w, i32_w]
                            rfl
                           refine pure_ (i := 26) (N := some 100) (v := ?_) (a' := ?_) #[true, true, true, true, true, true, true, true, true, true, true, true, true, true, true, true, true, true, true, true, true, true, true, true, true, true, true, false] rfl rfl (any_of HT_.out (by kernel_rfl)) (fun _ _ _ h => h) (Or.inl ⟨by rfl, ?_⟩) ?_ ?_
                           rotate_left
                           ·intro w'
                            go_simp
                            with_reducible rfl
                           rotate_left
                           ·simp only [Act.put, List.setIfInBounds_toArray, List.set_cons_zero, List.set_cons_succ, i64_w, i32_w]
                            rfl
                           refine pure_ (i := 27) (N := some 101) (v := ?_) (a' := ?_) #[true, true, true, true, true, true, true, true, true, true, true, true, true, true, true, true, true, true, true, true, true, true, true, true, true, true, true, true] rfl rfl (any_of HT_.out (by kernel_rfl)) (fun _ _ _ h => h) (Or.inl ⟨by rfl, ?_⟩) ?_ ?_
                           rotate_left
                           ·intro w'
                            go_simp
                            with_reducible rfl
                           rotate_left
                           ·simp only [Act.put, List.setIfInBounds_toArray, List.set_cons_zero, List.set_cons_succ, i64_w, i32_w]
                            rfl
                           refine done_ (done_of HT_.out (by kernel_rfl)) ?_
                           go_wp2
                           go_roundg kj30
                           case measure => have := HJ5.out; have := HJ8.out; have := HJ13.out; have := HJ18.out; have := HJ25.out; have := HK6.out; have := HJ28.out; have := HK8.out; have := HJ30.out; omega
                           case rel => exact ⟨(true), (wrap64 (x70_8 + 1)), (by first | rfl | (simp; done) | (simp [*]; done)), (by first | rfl | (simp; done) | (simp [*]; done)), H', ⟨by have := HJ5.out; have := HJ8.out; have := HJ13.out; have := HJ18.out; have := HJ25.out; have := HK6.out; have := HJ28.out; have := HK8.out; have := HJ30.out; omega⟩, ⟨by (with_reducible repeat (first | apply Kd.R_alloc | apply Kd.R_drewN | apply Kd.R_drew)); exact HO_11.out⟩, ⟨by (with_reducible repeat (first | apply Kd.R_alloc | apply Kd.R_drewN | apply Kd.R_drew)); exact HO_13.out⟩, ⟨by repeat (first | (with_reducible first | exact HB.out | apply below_alloc | apply pw_below_drewN | apply below_drew1 | refine below_set ?_ GE507.out) | exact HB.out)⟩⟩
                          ·replace c62 := Bool.eq_false_iff.mpr c62
                           subst c62
                           have H1 : (testamurlaw42_DevicesStale.l1 kj30 l0 l1 a3 t491 t495 x65_6 x16_8 (t491.length : Int) x65_6 l1 (l1.length : Int) (wrap64 (x70_8 + 1))) = some r := by rw [if_neg (show ¬ (false = true) by decide)] at H; exact H
                           clear H
                           have H := H1
                           clear H1
                           have H' := Aside0.mk H
                           clear H
                           have p506 : 0 ≤ (x70_8 : Int) := of_decide_eq_true (by first | (with_reducible assumption) | assumption)
                           have q506 : x70_8 < (l1.length : Int) := of_decide_eq_true (by first | (with_reducible assumption) | assumption)
                           obtain ⟨ad506, e506, hx506_0, hx506_1, hx506_2, hx506_3, hx506_4, hx506_5⟩ := at_T40 HR1.out x70_8 p506 q506
                           cases e506
                           replace hx506_0 := (HB.out.cell (World.block_lt_of_cell? w _ hx506_0)).trans hx506_0
                           replace hx506_1 := (HB.out.cell (World.block_lt_of_cell? w _ hx506_1)).trans hx506_1
                           replace hx506_2 := (HB.out.cell (World.block_lt_of_cell? w _ hx506_2)).trans hx506_2
                           replace hx506_3 := (HB.out.cell (World.block_lt_of_cell? w _ hx506_3)).trans hx506_3
                           replace hx506_4 := (HB.out.cell (World.block_lt_of_cell? w _ hx506_4)).trans hx506_4
                           replace hx506_5 := (HB.out.cell (World.block_lt_of_cell? w _ hx506_5)).trans hx506_5
                           replace p506 := eq_true p506
                           replace q506 := eq_true q506
                           go_wp2_with ((with_reducible refine gate_dst (N := 18) rfl ?_); refine Aside0.out (p := _) ?_)
                           refine ⟨?_⟩
                           refine box_event ?hg (N := 18) ?hd (cs := #[.int .i64 0, .int .i64 0, .int .i64 0, .int .i64 0, .int .i64 0, .int .i64 0]) (t := 40) ?hr ?_; (case hd => rfl); (case hg => rfl); (case hr => first | (go_simp; done) | (go_simp; rfl))
                           intro gb507 hg w69 hbox hb
                           have n0_ := Aside0.mk (Kd.R_below (by (with_reducible repeat (first | apply Kd.R_alloc | apply Kd.R_drewN | apply Kd.R_drew)); exact HO_11.out) hb)
                           have n1_ := Aside0.mk (Kd.R_below (by (with_reducible repeat (first | apply Kd.R_alloc | apply Kd.R_drewN | apply Kd.R_drew)); exact HO_13.out) hb)
                           have n2_ := Aside0.mk (below_step (by repeat (first | (with_reducible first | exact HB.out | apply below_alloc | apply pw_below_drewN | apply below_drew1) | exact HB.out)) hb)
                           have n3_ := Aside0.mk (hbox)
                           have n4_ := Aside0.mk ((by rw [hg]; exact (below_size (by repeat (first | (with_reducible first | exact HB.out | apply below_alloc | apply pw_below_drewN | apply below_drew1) | exact HB.out))) : w.heap.size ≤ gb507))
                           have n5_ := Aside0.mk ((by rw [hg]; exact (below_size (by repeat (first | (with_reducible first | exact HB.out | apply below_alloc | apply pw_below_drewN | apply below_drew1) | exact HB.out))) : w.heap.size ≤ gb507))
                           clear HO_11
                           clear HO_13
                           clear HB
                           have HO_11 := n0_
                           have HO_13 := n1_
                           have HB := n2_
                           have BK507 := n3_
                           have GW507 := n4_
                           have GE507 := n5_
                           clear n0_ n1_ n2_ n3_ n4_ n5_
                           clear hb hbox hg
                           have hcz70_0 : w69.cell? ⟨gb507, 0, none⟩ = some (.int .i64 0) := (blk_cell BK507.out 0).trans rfl
                           have hcz70_1 : w69.cell? ⟨gb507, 1, none⟩ = some (.int .i64 0) := (blk_cell BK507.out 1).trans rfl
                           have hcz70_2 : w69.cell? ⟨gb507, 2, none⟩ = some (.int .i64 0) := (blk_cell BK507.out 2).trans rfl
                           have hcz70_3 : w69.cell? ⟨gb507, 3, none⟩ = some (.int .i64 0) := (blk_cell BK507.out 3).trans rfl
                           have hcz70_4 : w69.cell? ⟨gb507, 4, none⟩ = some (.int .i64 0) := (blk_cell BK507.out 4).trans rfl
                           have hcz70_5 : w69.cell? ⟨gb507, 5, none⟩ = some (.int .i64 0) := (blk_cell BK507.out 5).trans rfl
                           have hfz70_0 := blk_frozen BK507.out 0
                           have hfz70_1 := blk_frozen BK507.out 1
                           have hfz70_2 := blk_frozen BK507.out 2
                           have hfz70_3 := blk_frozen BK507.out 3
                           have hfz70_4 := blk_frozen BK507.out 4
                           have hfz70_5 := blk_frozen BK507.out 5
                           go_wp2
                           have n0_ : Aside0 (Kd.R k47 47 ((((((w69.setCell ⟨gb507, 0, none⟩ (.int .i64 ((rd_T40 l1 x70_8).f0))).setCell ⟨gb507, 1, none⟩ (.int .i64 ((rd_T40 l1 x70_8).f1))).setCell ⟨gb507, 2, none⟩ (.int .i64 ((rd_T40 l1 x70_8).f2))).setCell ⟨gb507, 3, none⟩ (.int .i64 ((rd_T40 l1 x70_8).f3))).setCell ⟨gb507, 4, none⟩ (.int .i64 ((rd_T40 l1 x70_8).f4))).setCell ⟨gb507, 5, none⟩ (.int .i64 ((rd_T40 l1 x70_8).f5))) w.heap.size (fun k_ => some k_ ≠ (v497 : Value).ownBlock) (.slice Ao28 t491.length co28) t491) := ⟨by (with_reducible repeat (first | apply Kd.R_alloc | apply Kd.R_drewN | apply Kd.R_drew)); exact Kd.R_mono (Kd.R_far (p := ⟨gb507, 5, none⟩) (Kd.R_far (p := ⟨gb507, 4, none⟩) (Kd.R_far (p := ⟨gb507, 3, none⟩) (Kd.R_far (p := ⟨gb507, 2, none⟩) (Kd.R_far (p := ⟨gb507, 1, none⟩) (Kd.R_far (p := ⟨gb507, 0, none⟩) (Kd.R_types HO_11.out BK507.out (by decide)) (fun _ hk => hk.2) (.int .i64 ((rd_T40 l1 x70_8).f0))) (fun _ hk => hk.2) (.int .i64 ((rd_T40 l1 x70_8).f1))) (fun _ hk => hk.2) (.int .i64 ((rd_T40 l1 x70_8).f2))) (fun _ hk => hk.2) (.int .i64 ((rd_T40 l1 x70_8).f3))) (fun _ hk => hk.2) (.int .i64 ((rd_T40 l1 x70_8).f4))) (fun _ hk => hk.2) (.int .i64 ((rd_T40 l1 x70_8).f5))) (fun _ hk => hk.1)⟩
                           have n1_ : Aside0 (Kd.R k47 47 ((((((w69.setCell ⟨gb507, 0, none⟩ (.int .i64 ((rd_T40 l1 x70_8).f0))).setCell ⟨gb507, 1, none⟩ (.int .i64 ((rd_T40 l1 x70_8).f1))).setCell ⟨gb507, 2, none⟩ (.int .i64 ((rd_T40 l1 x70_8).f2))).setCell ⟨gb507, 3, none⟩ (.int .i64 ((rd_T40 l1 x70_8).f3))).setCell ⟨gb507, 4, none⟩ (.int .i64 ((rd_T40 l1 x70_8).f4))).setCell ⟨gb507, 5, none⟩ (.int .i64 ((rd_T40 l1 x70_8).f5))) w.heap.size (fun k_ => some k_ ≠ (.slice Ao28 t491.length co28 : Value).ownBlock) v497 t495) := ⟨by (with_reducible repeat (first | apply Kd.R_alloc | apply Kd.R_drewN | apply Kd.R_drew)); exact Kd.R_mono (Kd.R_far (p := ⟨gb507, 5, none⟩) (Kd.R_far (p := ⟨gb507, 4, none⟩) (Kd.R_far (p := ⟨gb507, 3, none⟩) (Kd.R_far (p := ⟨gb507, 2, none⟩) (Kd.R_far (p := ⟨gb507, 1, none⟩) (Kd.R_far (p := ⟨gb507, 0, none⟩) (Kd.R_types HO_13.out BK507.out (by decide)) (fun _ hk => hk.2) (.int .i64 ((rd_T40 l1 x70_8).f0))) (fun _ hk => hk.2) (.int .i64 ((rd_T40 l1 x70_8).f1))) (fun _ hk => hk.2) (.int .i64 ((rd_T40 l1 x70_8).f2))) (fun _ hk => hk.2) (.int .i64 ((rd_T40 l1 x70_8).f3))) (fun _ hk => hk.2) (.int .i64 ((rd_T40 l1 x70_8).f4))) (fun _ hk => hk.2) (.int .i64 ((rd_T40 l1 x70_8).f5))) (fun _ hk => hk.1)⟩
                           have n2_ : Aside0 (((((((w69.setCell ⟨gb507, 0, none⟩ (.int .i64 ((rd_T40 l1 x70_8).f0))).setCell ⟨gb507, 1, none⟩ (.int .i64 ((rd_T40 l1 x70_8).f1))).setCell ⟨gb507, 2, none⟩ (.int .i64 ((rd_T40 l1 x70_8).f2))).setCell ⟨gb507, 3, none⟩ (.int .i64 ((rd_T40 l1 x70_8).f3))).setCell ⟨gb507, 4, none⟩ (.int .i64 ((rd_T40 l1 x70_8).f4))).setCell ⟨gb507, 5, none⟩ (.int .i64 ((rd_T40 l1 x70_8).f5))).heap[gb507]? = some (.cells #[.int .i64 ((rd_T40 l1 x70_8).f0), .int .i64 ((rd_T40 l1 x70_8).f1), .int .i64 ((rd_T40 l1 x70_8).f2), .int .i64 ((rd_T40 l1 x70_8).f3), .int .i64 ((rd_T40 l1 x70_8).f4), .int .i64 ((rd_T40 l1 x70_8).f5)] 40 (0, 0))) := ⟨by (with_reducible repeat (first | refine blk_drewN ?_ _ | refine blk_drew ?_ | refine blk_alloc ?_ _)); refine blk_put (cs := #[.int .i64 ((rd_T40 l1 x70_8).f0), .int .i64 ((rd_T40 l1 x70_8).f1), .int .i64 ((rd_T40 l1 x70_8).f2), .int .i64 ((rd_T40 l1 x70_8).f3), .int .i64 ((rd_T40 l1 x70_8).f4), .int .i64 0]) ?_ 5 _ rfl; (with_reducible repeat (first | refine blk_drewN ?_ _ | refine blk_drew ?_ | refine blk_alloc ?_ _)); refine blk_put (cs := #[.int .i64 ((rd_T40 l1 x70_8).f0), .int .i64 ((rd_T40 l1 x70_8).f1), .int .i64 ((rd_T40 l1 x70_8).f2), .int .i64 ((rd_T40 l1 x70_8).f3), .int .i64 0, .int .i64 0]) ?_ 4 _ rfl; (with_reducible repeat (first | refine blk_drewN ?_ _ | refine blk_drew ?_ | refine blk_alloc ?_ _)); refine blk_put (cs := #[.int .i64 ((rd_T40 l1 x70_8).f0), .int .i64 ((rd_T40 l1 x70_8).f1), .int .i64 ((rd_T40 l1 x70_8).f2), .int .i64 0, .int .i64 0, .int .i64 0]) ?_ 3 _ rfl; (with_reducible repeat (first | refine blk_drewN ?_ _ | refine blk_drew ?_ | refine blk_alloc ?_ _)); refine blk_put (cs := #[.int .i64 ((rd_T40 l1 x70_8).f0), .int .i64 ((rd_T40 l1 x70_8).f1), .int .i64 0, .int .i64 0, .int .i64 0, .int .i64 0]) ?_ 2 _ rfl; (with_reducible repeat (first | refine blk_drewN ?_ _ | refine blk_drew ?_ | refine blk_alloc ?_ _)); refine blk_put (cs := #[.int .i64 ((rd_T40 l1 x70_8).f0), .int .i64 0, .int .i64 0, .int .i64 0, .int .i64 0, .int .i64 0]) ?_ 1 _ rfl; (with_reducible repeat (first | refine blk_drewN ?_ _ | refine blk_drew ?_ | refine blk_alloc ?_ _)); refine blk_put (cs := #[.int .i64 0, .int .i64 0, .int .i64 0, .int .i64 0, .int .i64 0, .int .i64 0]) ?_ 0 _ rfl; (with_reducible repeat (first | refine blk_drewN ?_ _ | refine blk_drew ?_ | refine blk_alloc ?_ _)); exact BK507.out⟩
                           have n3_ : Aside0 (Below w.heap.size w ((((((w69.setCell ⟨gb507, 0, none⟩ (.int .i64 ((rd_T40 l1 x70_8).f0))).setCell ⟨gb507, 1, none⟩ (.int .i64 ((rd_T40 l1 x70_8).f1))).setCell ⟨gb507, 2, none⟩ (.int .i64 ((rd_T40 l1 x70_8).f2))).setCell ⟨gb507, 3, none⟩ (.int .i64 ((rd_T40 l1 x70_8).f3))).setCell ⟨gb507, 4, none⟩ (.int .i64 ((rd_T40 l1 x70_8).f4))).setCell ⟨gb507, 5, none⟩ (.int .i64 ((rd_T40 l1 x70_8).f5)))) := ⟨by repeat (first | (with_reducible first | exact HB.out | apply below_alloc | apply pw_below_drewN | apply below_drew1 | refine below_set ?_ GE507.out) | exact HB.out)⟩
                           (try clear HO_11)
                           (try clear HO_13)
                           (try clear BK507)
                           (try clear HB)
                           generalize ((((((w69.setCell ⟨gb507, 0, none⟩ (.int .i64 ((rd_T40 l1 x70_8).f0))).setCell ⟨gb507, 1, none⟩ (.int .i64 ((rd_T40 l1 x70_8).f1))).setCell ⟨gb507, 2, none⟩ (.int .i64 ((rd_T40 l1 x70_8).f2))).setCell ⟨gb507, 3, none⟩ (.int .i64 ((rd_T40 l1 x70_8).f3))).setCell ⟨gb507, 4, none⟩ (.int .i64 ((rd_T40 l1 x70_8).f4))).setCell ⟨gb507, 5, none⟩ (.int .i64 ((rd_T40 l1 x70_8).f5))) = w71 at n0_ n1_ n2_ n3_ ⊢
                           have HO_11 := n0_
                           have HO_13 := n1_
                           have BK507 := n2_
                           have HB := n3_
                           clear n0_ n1_ n2_ n3_
                           have n0_ := Aside0.mk (Kd.R_drew HO_11.out)
                           have n1_ := Aside0.mk (Kd.R_drew HO_13.out)
                           have n2_ := Aside0.mk (blk_drew BK507.out)
                           have n3_ := Aside0.mk (below_drew1 HB.out)
                           clear HO_11
                           clear HO_13
                           clear BK507
                           clear HB
                           have HO_11 := n0_
                           have HO_13 := n1_
                           have BK507 := n2_
                           have HB := n3_
                           clear n0_ n1_ n2_ n3_
                           have p511 : 0 ≤ (x65_6 : Int) := of_decide_eq_true (by first | (with_reducible assumption) | assumption)
                           have q511 : x65_6 < (t491.length : Int) := of_decide_eq_true (by first | (with_reducible assumption) | assumption)
                           obtain ⟨ad511, e511, hx511_0, hx511_1, hx511_2, hx511_3⟩ := at_T47 (Kd.R_reads' HO_11.out).2.2 x65_6 p511 q511
                           cases e511
                           replace p511 := eq_true p511
                           replace q511 := eq_true q511
                           refine start_ (n := 28) (S := fun w' => w'.cell? ⟨gb507, 0, none⟩ = some (.int .i64 ((rd_T40 l1 x70_8).f0)) ∧ w'.cell? ⟨gb507, 1, none⟩ = some (.int .i64 ((rd_T40 l1 x70_8).f1)) ∧ w'.cell? ⟨gb507, 2, none⟩ = some (.int .i64 ((rd_T40 l1 x70_8).f2)) ∧ w'.cell? ⟨gb507, 3, none⟩ = some (.int .i64 ((rd_T40 l1 x70_8).f3)) ∧ w'.cell? ⟨gb507, 4, none⟩ = some (.int .i64 ((rd_T40 l1 x70_8).f4)) ∧ w'.cell? ⟨gb507, 5, none⟩ = some (.int .i64 ((rd_T40 l1 x70_8).f5)) ∧ w'.cell? (ad511.add ((x65_6).toNat * 4)) = some (.int .i64 ((rd_T47 t491 x65_6).f0)) ∧ w'.cell? ⟨(ad511.add ((x65_6).toNat * 4)).block, (ad511.add ((x65_6).toNat * 4)).off + 1, none⟩ = some (.int .i64 ((rd_T47 t491 x65_6).f1)) ∧ w'.cell? ⟨(ad511.add ((x65_6).toNat * 4)).block, (ad511.add ((x65_6).toNat * 4)).off + 2, none⟩ = some (.int .i64 ((rd_T47 t491 x65_6).f2)) ∧ w'.cell? ⟨(ad511.add ((x65_6).toNat * 4)).block, (ad511.add ((x65_6).toNat * 4)).off + 3, none⟩ = some (.bool ((rd_T47 t491 x65_6).f3))) (ds := []) #[false, false, false, false, false, false, false, false, false, false, false, false, false, false, false, false, false, false, false, false, false, false, false, false, false, false, false, false] (by kernel_rfl) rfl rfl ⟨(blk_cell BK507.out 0).trans rfl, (blk_cell BK507.out 1).trans rfl, (blk_cell BK507.out 2).trans rfl, (blk_cell BK507.out 3).trans rfl, (blk_cell BK507.out 4).trans rfl, (blk_cell BK507.out 5).trans rfl, hx511_0, hx511_1, hx511_2, hx511_3⟩ (fun hHeld => ?_); refine with_tabW testamurlaw42_DevicesStale.tab17 testamurlaw42_DevicesStale.bits17 (fun HT_ HW_ => ?_)
                           generalize w71.drew = w72 at HO_11 HO_13 BK507 HB hx511_0 hx511_1 hx511_2 hx511_3 hHeld ⊢
                           refine pure_ (i := 0) (N := some 74) (v := ?_) (a' := ?_) #[true, false, false, false, false, false, false, false, false, false, false, false, false, false, false, false, false, false, false, false, false, false, false, false, false, false, false, false] rfl rfl (any_of HT_.out (by kernel_rfl)) (fun _ _ _ h => h) (Or.inl ⟨by rfl, ?_⟩) ?_ ?_
                           rotate_left
                           ·intro w'
                            go_simp
                            with_reducible rfl
                           rotate_left
                           ·simp only [Act.put, List.setIfInBounds_toArray, List.set_cons_zero, List.set_cons_succ, i64_w, i32_w]
                            rfl
                           refine pure_ (i := 2) (N := some 76) (v := ?_) (a' := ?_) #[true, false, true, false, false, false, false, false, false, false, false, false, false, false, false, false, false, false, false, false, false, false, false, false, false, false, false, false] rfl rfl (any_of HT_.out (by kernel_rfl)) (fun _ _ _ h => h) (Or.inl ⟨by rfl, ?_⟩) ?_ ?_
                           rotate_left
                           ·intro w'
                            go_simp
                            with_reducible rfl
                           rotate_left
                           ·simp only [Act.put, List.setIfInBounds_toArray, List.set_cons_zero, List.set_cons_succ, i64_w, i32_w]
                            rfl
                           refine take_ (i := 1) (N := some 75) (v := ?_) (a' := ?_) #[true, true, true, false, false, false, false, false, false, false, false, false, false, false, false, false, false, false, false, false, false, false, false, false, false, false, false, false] rfl rfl (take_ofW HT_.out HW_.out (by kernel_rfl)) (fun _ _ _ h => h) (Or.inl ⟨by rfl, ?_⟩) hHeld ?_ ?_
                           rotate_left
                           ·rintro w' ⟨s0, s1, s2, s3, s4, s5, s6, s7, s8, s9⟩
                            go_simp
                            with_reducible rfl
                           rotate_left
                           ·simp only [Act.put, List.setIfInBounds_toArray, List.set_cons_zero, List.set_cons_succ, i64_w, i32_w]
                            rfl
                           refine pure_ (i := 3) (N := some 77) (v := ?_) (a' := ?_) #[true, true, true, true, false, false, false, false, false, false, false, false, false, false, false, false, false, false, false, false, false, false, false, false, false, false, false, false] rfl rfl (any_of HT_.out (by kernel_rfl)) (fun _ _ _ h => h) (Or.inl ⟨by rfl, ?_⟩) ?_ ?_
                           rotate_left
                           ·intro w'
                            go_simp
                            with_reducible rfl
                           rotate_left
                           ·simp only [Act.put, List.setIfInBounds_toArray, List.set_cons_zero, List.set_cons_succ, i64_w, i32_w]
                            rfl
                           refine pure_ (i := 4) (N := some 78) (v := ?_) (a' := ?_) #[true, true, true, true, true, false, false, false, false, false, false, false, false, false, false, false, false, false, false, false, false, false, false, false, false, false, false, false] rfl rfl (any_of HT_.out (by kernel_rfl)) (fun _ _ _ h => h) (Or.inl ⟨by rfl, ?_⟩) ?_ ?_
                           rotate_left
                           ·intro w'
                            go_simp
                            with_reducible rfl
                           rotate_left
                           ·simp only [Act.put, List.setIfInBounds_toArray, List.set_cons_zero, List.set_cons_succ, i64_w, i32_w]
                            rfl
                           refine pure_ (i := 5) (N := some 79) (v := ?_) (a' := ?_) #[true, true, true, true, true, true, false, false, false, false, false, false, false, false, false, false, false, false, false, false, false, false, false, false, false, false, false, false] rfl rfl (any_of HT_.out (by kernel_rfl)) (fun _ _ _ h => h) (Or.inl ⟨by rfl, ?_⟩) ?_ ?_
                           rotate_left
                           ·intro w'
                            go_simp
                            with_reducible rfl
                           rotate_left
                           ·simp only [Act.put, List.setIfInBounds_toArray, List.set_cons_zero, List.set_cons_succ, i64_w, i32_w]
                            rfl
                           refine take_ (i := 6) (N := some 80) (v := ?_) (a' := ?_) #[true, true, true, true, true, true, true, false, false, false, false, false, false, false, false, false, false, false, false, false, false, false, false, false, false, false, false, false] rfl rfl (take_ofW HT_.out HW_.out (by kernel_rfl)) (fun _ _ _ h => h) (Or.inl ⟨by rfl, ?_⟩) hHeld ?_ ?_
                           rotate_left
                           ·rintro w' ⟨s0, s1, s2, s3, s4, s5, s6, s7, s8, s9⟩
                            go_simp
                            with_reducible rfl
                           rotate_left
                           ·simp only [Act.put, List.setIfInBounds_toArray, List.set_cons_zero, List.set_cons_succ, i64_w, i32_w]
                            rfl
                           refine one_ (i := 7) (N := some 81) #[true, true, true, true, true, true, true, true, false, false, false, false, false, false, false, false, false, false, false, false, false, false, false, false, false, false, false, false] rfl rfl (one_of HT_.out (by kernel_rfl)) (by decide) (fun K hK => ?_)
                           refine goes_ Try.func37 (by kernel_rfl) rfl #[.slice A0 l0.length c0, .agg #[.int .i64 ((rd_T40 l1 x70_8).f0), .int .i64 ((rd_T40 l1 x70_8).f1), .int .i64 ((rd_T40 l1 x70_8).f2), .int .i64 ((rd_T40 l1 x70_8).f3), .int .i64 ((rd_T40 l1 x70_8).f4), .int .i64 ((rd_T40 l1 x70_8).f5)]] (by rfl) rfl rfl (by (try simp only [List.map_toArray, List.map_cons, List.map_nil]); first | done | rfl | (simp only [List.length_drop, List.length_take]; rfl)) ?_
                           with_reducible refine (testamurref42_Has.calls kj30 _ _ l0 ((rd_T40 l1 x70_8).f0) ((rd_T40 l1 x70_8).f1) ((rd_T40 l1 x70_8).f2) ((rd_T40 l1 x70_8).f3) ((rd_T40 l1 x70_8).f4) ((rd_T40 l1 x70_8).f5) false _ ?side1 ?side2 A46.out).mono ?_
                           (case side1 => repeat (first | exact (Kd.C_below HR0.out HB.out) | (with_reducible refine Kd.C_alloc ?_ _) | (with_reducible refine Kd.C_drewN ?_ _) | (with_reducible refine Kd.C_drew ?_)))
                           (case side2 => exact HC0.out)
                           rintro e w73 ⟨rfl, hb⟩
                           have HS6_ := (hb.cell (World.block_lt_of_cell? _ _ (hHeld.2.2.2.2.2.2.1))).trans (hHeld.2.2.2.2.2.2.1)
                           have HS7_ := (hb.cell (World.block_lt_of_cell? _ _ (hHeld.2.2.2.2.2.2.2.1))).trans (hHeld.2.2.2.2.2.2.2.1)
                           have HS8_ := (hb.cell (World.block_lt_of_cell? _ _ (hHeld.2.2.2.2.2.2.2.2.1))).trans (hHeld.2.2.2.2.2.2.2.2.1)
                           have HS9_ := (hb.cell (World.block_lt_of_cell? _ _ (hHeld.2.2.2.2.2.2.2.2.2))).trans (hHeld.2.2.2.2.2.2.2.2.2)
                           refine ⟨_, rfl, ?_⟩
                           have n0_ := Aside0.mk (Kd.R_below (by (with_reducible repeat (first | apply Kd.R_alloc | apply Kd.R_drewN | apply Kd.R_drew)); exact HO_11.out) hb)
                           have n1_ := Aside0.mk (Kd.R_below (by (with_reducible repeat (first | apply Kd.R_alloc | apply Kd.R_drewN | apply Kd.R_drew)); exact HO_13.out) hb)
                           have n2_ := Aside0.mk (blk_below (g := gb507) (o := .cells #[.int .i64 ((rd_T40 l1 x70_8).f0), .int .i64 ((rd_T40 l1 x70_8).f1), .int .i64 ((rd_T40 l1 x70_8).f2), .int .i64 ((rd_T40 l1 x70_8).f3), .int .i64 ((rd_T40 l1 x70_8).f4), .int .i64 ((rd_T40 l1 x70_8).f5)] 40 (0, 0)) (by (with_reducible repeat (first | refine blk_drewN ?_ _ | refine blk_drew ?_ | refine blk_alloc ?_ _)); exact BK507.out) hb)
                           have n3_ := Aside0.mk (below_step (by repeat (first | (with_reducible first | exact HB.out | apply below_alloc | apply pw_below_drewN | apply below_drew1 | refine below_set ?_ GE507.out) | exact HB.out)) hb)
                           clear HO_11
                           clear HO_13
                           clear BK507
                           clear HB
                           have HO_11 := n0_
                           have HO_13 := n1_
                           have BK507 := n2_
                           have HB := n3_
                           clear n0_ n1_ n2_ n3_
                           (try clear hb)
                           (try clear hb2)
                           (try clear hk)
                           (try clear hi)
                           refine hK.out _ _ ⟨(blk_cell BK507.out 0).trans rfl, (blk_cell BK507.out 1).trans rfl, (blk_cell BK507.out 2).trans rfl, (blk_cell BK507.out 3).trans rfl, (blk_cell BK507.out 4).trans rfl, (blk_cell BK507.out 5).trans rfl, HS6_, HS7_, HS8_, HS9_⟩ (fun hHeld => ?_)
                           clear hK K
                           refine norm_ (a' := ?_) ?_ ?_
                           rotate_left
                           ·show Act.put _ (some 81) _ = _
                            simp only [Act.put, List.setIfInBounds_toArray, List.set_cons_zero, List.set_cons_succ, i64_w, i32_w]
                            rfl
                           refine pure_ (i := 8) (N := some 82) (v := ?_) (a' := ?_) #[true, true, true, true, true, true, true, true, true, false, false, false, false, false, false, false, false, false, false, false, false, false, false, false, false, false, false, false] rfl rfl (any_of HT_.out (by kernel_rfl)) (fun _ _ _ h => h) (Or.inl ⟨by rfl, ?_⟩) ?_ ?_
                           rotate_left
                           ·intro w'
                            go_simp
                            with_reducible rfl
                           rotate_left
                           ·simp only [Act.put, List.setIfInBounds_toArray, List.set_cons_zero, List.set_cons_succ, i64_w, i32_w]
                            rfl
                           refine pure_ (i := 9) (N := some 83) (v := ?_) (a' := ?_) #[true, true, true, true, true, true, true, true, true, true, false, false, false, false, false, false, false, false, false, false, false, false, false, false, false, false, false, false] rfl rfl (any_of HT_.out (by kernel_rfl)) (fun _ _ _ h => h) (Or.inl ⟨by rfl, ?_⟩) ?_ ?_
                           rotate_left
                           ·intro w'
                            go_simp
                            with_reducible rfl
                           rotate_left
                           ·simp only [Act.put, List.setIfInBounds_toArray, List.set_cons_zero, List.set_cons_succ, i64_w, i32_w]
                            rfl
                           refine pure_ (i := 10) (N := some 84) (v := ?_) (a' := ?_) #[true, true, true, true, true, true, true, true, true, true, true, false, false, false, false, false, false, false, false, false, false, false, false, false, false, false, false, false] rfl rfl (any_of HT_.out (by kernel_rfl)) (fun _ _ _ h => h) (Or.inl ⟨by rfl, ?_⟩) ?_ ?_
                           rotate_left
                           ·intro w'
                            go_simp
                            with_reducible rfl
                           rotate_left
                           ·simp only [Act.put, List.setIfInBounds_toArray, List.set_cons_zero, List.set_cons_succ, i64_w, i32_w]
                            rfl
                           refine pure_ (i := 11) (N := some 85) (v := ?_) (a' := ?_) #[true, true, true, true, true, true, true, true, true, true, true, true, false, false, false, false, false, false, false, false, false, false, false, false, false, false, false, false] rfl rfl (any_of HT_.out (by kernel_rfl)) (fun _ _ _ h => h) (Or.inl ⟨by rfl, ?_⟩) ?_ ?_
                           rotate_left
                           ·intro w'
                            go_simp
                            with_reducible rfl
                           rotate_left
                           ·simp only [Act.put, List.setIfInBounds_toArray, List.set_cons_zero, List.set_cons_succ, i64_w, i32_w]
                            rfl
                           refine pure_ (i := 13) (N := some 87) (v := ?_) (a' := ?_) #[true, true, true, true, true, true, true, true, true, true, true, true, false, true, false, false, false, false, false, false, false, false, false, false, false, false, false, false] rfl rfl (any_of HT_.out (by kernel_rfl)) (fun _ _ _ h => h) (Or.inl ⟨by rfl, ?_⟩) ?_ ?_
                           rotate_left
                           ·intro w'
                            go_simp
                            with_reducible rfl
                           rotate_left
                           ·simp only [Act.put, List.setIfInBounds_toArray, List.set_cons_zero, List.set_cons_succ, i64_w, i32_w]
                            rfl
                           refine pure_ (i := 14) (N := some 88) (v := ?_) (a' := ?_) #[true, true, true, true, true, true, true, true, true, true, true, true, false, true, true, false, false, false, false, false, false, false, false, false, false, false, false, false] rfl rfl (any_of HT_.out (by kernel_rfl)) (fun _ _ _ h => h) (Or.inl ⟨by rfl, ?_⟩) ?_ ?_
                           rotate_left
                           ·intro w'
                            go_simp
                            with_reducible rfl
                           rotate_left
                           ·simp only [Act.put, List.setIfInBounds_toArray, List.set_cons_zero, List.set_cons_succ, i64_w, i32_w]
                            rfl
                           refine pure_ (i := 15) (N := some 89) (v := ?_) (a' := ?_) #[true, true, true, true, true, true, true, true, true, true, true, true, false, true, true, true, false, false, false, false, false, false, false, false, false, false, false, false] rfl rfl (any_of HT_.out (by kernel_rfl)) (fun _ _ _ h => h) (Or.inl ⟨by rfl, ?_⟩) ?_ ?_
                           rotate_left
                           ·intro w'
                            go_simp
                            with_reducible rfl
                           rotate_left
                           ·simp only [Act.put, List.setIfInBounds_toArray, List.set_cons_zero, List.set_cons_succ, i64_w, i32_w]
                            rfl
                           refine pure_ (i := 16) (N := some 90) (v := ?_) (a' := ?_) #[true, true, true, true, true, true, true, true, true, true, true, true, false, true, true, true, true, false, false, false, false, false, false, false, false, false, false, false] rfl rfl (any_of HT_.out (by kernel_rfl)) (fun _ _ _ h => h) (Or.inl ⟨by rfl, ?_⟩) ?_ ?_
                           rotate_left
                           ·intro w'
                            go_simp
                            with_reducible rfl
                           rotate_left
                           ·simp only [Act.put, List.setIfInBounds_toArray, List.set_cons_zero, List.set_cons_succ, i64_w, i32_w]
                            rfl
                           refine take_ (i := 12) (N := some 86) (v := ?_) (a' := ?_) #[true, true, true, true, true, true, true, true, true, true, true, true, true, true, true, true, true, false, false, false, false, false, false, false, false, false, false, false] rfl rfl (take_ofW HT_.out HW_.out (by kernel_rfl)) (fun _ _ _ h => h) (Or.inl ⟨by rfl, ?_⟩) hHeld ?_ ?_
                           rotate_left
                           ·rintro w' ⟨s0, s1, s2, s3, s4, s5, s6, s7, s8, s9⟩
                            go_simp
                            with_reducible rfl
                           rotate_left
                           ·simp only [Act.put, List.setIfInBounds_toArray, List.set_cons_zero, List.set_cons_succ, i64_w, i32_w]
                            rfl
                           refine take_ (i := 17) (N := some 91) (v := ?_) (a' := ?_) #[true, true, true, true, true, true, true, true, true, true, true, true, true, true, true, true, true, true, false, false, false, false, false, false, false, false, false, false] rfl rfl (take_ofW HT_.out HW_.out (by kernel_rfl)) (fun _ _ _ h => h) (Or.inl ⟨by rfl, ?_⟩) hHeld ?_ ?_
                           rotate_left
                           ·rintro w' ⟨s0, s1, s2, s3, s4, s5, s6, s7, s8, s9⟩
                            go_simp
                            with_reducible rfl
                           rotate_left
                           ·simp only [Act.put, List.setIfInBounds_toArray, List.set_cons_zero, List.set_cons_succ, i64_w, i32_w]
                            rfl
                           refine pure_ (i := 18) (N := some 92) (v := ?_) (a' := ?_) #[true, true, true, true, true, true, true, true, true, true, true, true, true, true, true, true, true, true, true, false, false, false, false, false, false, false, false, false] rfl rfl (any_of HT_.out (by kernel_rfl)) (fun _ _ _ h => h) (Or.inl ⟨by rfl, ?_⟩) ?_ ?_
                           rotate_left
                           ·intro w'
                            go_simp
                            with_reducible rfl
                           rotate_left
                           ·simp only [Act.put, List.setIfInBounds_toArray, List.set_cons_zero, List.set_cons_succ, i64_w, i32_w]
                            rfl
                           refine pure_ (i := 19) (N := some 93) (v := ?_) (a' := ?_) #[true, true, true, true, true, true, true, true, true, true, true, true, true, true, true, true, true, true, true, true, false, false, false, false, false, false, false, false] rfl rfl (any_of HT_.out (by kernel_rfl)) (fun _ _ _ h => h) (Or.inl ⟨by rfl, ?_⟩) ?_ ?_
                           rotate_left
                           ·intro w'
                            go_simp
                            with_reducible rfl
                           rotate_left
                           ·simp only [Act.put, List.setIfInBounds_toArray, List.set_cons_zero, List.set_cons_succ, i64_w, i32_w]
                            rfl
                           refine pure_ (i := 20) (N := some 94) (v := ?_) (a' := ?_) #[true, true, true, true, true, true, true, true, true, true, true, true, true, true, true, true, true, true, true, true, true, false, false, false, false, false, false, false] rfl rfl (any_of HT_.out (by kernel_rfl)) (fun _ _ _ h => h) (Or.inl ⟨by rfl, ?_⟩) ?_ ?_
                           rotate_left
                           ·intro w'
                            go_simp
                            with_reducible rfl
                           rotate_left
                           ·simp only [Act.put, List.setIfInBounds_toArray, List.set_cons_zero, List.set_cons_succ, i64_w, i32_w]
                            rfl
                           refine pure_ (i := 21) (N := some 95) (v := ?_) (a' := ?_) #[true, true, true, true, true, true, true, true, true, true, true, true, true, true, true, true, true, true, true, true, true, true, false, false, false, false, false, false] rfl rfl (any_of HT_.out (by kernel_rfl)) (fun _ _ _ h => h) (Or.inl ⟨by rfl, ?_⟩) ?_ ?_
                           rotate_left
                           ·intro w'
                            go_simp
                            with_reducible rfl
                           rotate_left
                           ·simp only [Act.put, List.setIfInBounds_toArray, List.set_cons_zero, List.set_cons_succ, i64_w, i32_w]
                            rfl
                           refine pure_ (i := 22) (N := some 96) (v := ?_) (a' := ?_) #[true, true, true, true, true, true, true, true, true, true, true, true, true, true, true, true, true, true, true, true, true, true, true, false, false, false, false, false] rfl rfl (any_of HT_.out (by kernel_rfl)) (fun _ _ _ h => h) (Or.inl ⟨by rfl, ?_⟩) ?_ ?_
                           rotate_left
                           ·intro w'
                            go_simp
                            with_reducible rfl
                           rotate_left
                           ·simp only [Act.put, List.setIfInBounds_toArray, List.set_cons_zero, List.set_cons_succ, i64_w, i32_w]
                            rfl
                           refine pure_ (i := 23) (N := some 97) (v := ?_) (a' := ?_) #[true, true, true, true, true, true, true, true, true, true, true, true, true, true, true, true, true, true, true, true, true, true, true, true, false, false, false, false] rfl rfl (any_of HT_.out (by kernel_rfl)) (fun _ _ _ h => h) (Or.inl ⟨by rfl, ?_⟩) ?_ ?_
                           rotate_left
                           ·intro w'
                            go_simp
                            with_reducible rfl
                           rotate_left
                           ·simp only [Act.put, List.setIfInBounds_toArray, List.set_cons_zero, List.set_cons_succ, i64_w, i32_w]
                            rfl
                           refine take_ (i := 24) (N := some 98) (v := ?_) (a' := ?_) #[true, true, true, true, true, true, true, true, true, true, true, true, true, true, true, true, true, true, true, true, true, true, true, true, true, false, false, false] rfl rfl (take_ofW HT_.out HW_.out (by kernel_rfl)) (fun _ _ _ h => h) (Or.inl ⟨by rfl, ?_⟩) hHeld ?_ ?_
                           rotate_left
                           ·rintro w' ⟨s0, s1, s2, s3, s4, s5, s6, s7, s8, s9⟩
                            go_simp
                            with_reducible rfl
                           rotate_left
                           ·simp only [Act.put, List.setIfInBounds_toArray, List.set_cons_zero, List.set_cons_succ, i64_w, i32_w]
                            rfl
                           refine one_ (i := 25) (N := some 99) #[true, true, true, true, true, true, true, true, true, true, true, true, true, true, true, true, true, true, true, true, true, true, true, true, true, true, false, false] rfl rfl (one_of HT_.out (by kernel_rfl)) (by decide) (fun K hK => ?_)
                           refine goes_ Try.func38 (by kernel_rfl) rfl #[.slice A0 l0.length c0, .int .i64 x65_6, .int .i64 a3, .int .i64 ((rd_T40 l1 x70_8).f0)] (by rfl) rfl rfl (by (try simp only [List.map_toArray, List.map_cons, List.map_nil]); first | done | rfl | (simp only [List.length_drop, List.length_take]; rfl)) ?_
                           with_reducible refine (testamurlaw42_had.calls kj30 _ _ l0 x65_6 a3 ((rd_T40 l1 x70_8).f0) false _ ?side1 ?side2 A61.out).mono ?_
                           (case side1 => repeat (first | exact (Kd.C_below HR0.out HB.out) | (with_reducible refine Kd.C_alloc ?_ _) | (with_reducible refine Kd.C_drewN ?_ _) | (with_reducible refine Kd.C_drew ?_)))
                           (case side2 => exact HC0.out)
                           rintro e w74 ⟨rfl, hb⟩
                           have HS6_ := (hb.cell (World.block_lt_of_cell? _ _ (hHeld.2.2.2.2.2.2.1))).trans (hHeld.2.2.2.2.2.2.1)
                           have HS7_ := (hb.cell (World.block_lt_of_cell? _ _ (hHeld.2.2.2.2.2.2.2.1))).trans (hHeld.2.2.2.2.2.2.2.1)
                           have HS8_ := (hb.cell (World.block_lt_of_cell? _ _ (hHeld.2.2.2.2.2.2.2.2.1))).trans (hHeld.2.2.2.2.2.2.2.2.1)
                           have HS9_ := (hb.cell (World.block_lt_of_cell? _ _ (hHeld.2.2.2.2.2.2.2.2.2))).trans (hHeld.2.2.2.2.2.2.2.2.2)
                           refine ⟨_, rfl, ?_⟩
                           have n0_ := Aside0.mk (Kd.R_below (by (with_reducible repeat (first | apply Kd.R_alloc | apply Kd.R_drewN | apply Kd.R_drew)); exact HO_11.out) hb)
                           have n1_ := Aside0.mk (Kd.R_below (by (with_reducible repeat (first | apply Kd.R_alloc | apply Kd.R_drewN | apply Kd.R_drew)); exact HO_13.out) hb)
                           have n2_ := Aside0.mk (blk_below (g := gb507) (o := .cells #[.int .i64 ((rd_T40 l1 x70_8).f0), .int .i64 ((rd_T40 l1 x70_8).f1), .int .i64 ((rd_T40 l1 x70_8).f2), .int .i64 ((rd_T40 l1 x70_8).f3), .int .i64 ((rd_T40 l1 x70_8).f4), .int .i64 ((rd_T40 l1 x70_8).f5)] 40 (0, 0)) (by (with_reducible repeat (first | refine blk_drewN ?_ _ | refine blk_drew ?_ | refine blk_alloc ?_ _)); exact BK507.out) hb)
                           have n3_ := Aside0.mk (below_step (by repeat (first | (with_reducible first | exact HB.out | apply below_alloc | apply pw_below_drewN | apply below_drew1 | refine below_set ?_ GE507.out) | exact HB.out)) hb)
                           clear HO_11
                           clear HO_13
                           clear BK507
                           clear HB
                           have HO_11 := n0_
                           have HO_13 := n1_
                           have BK507 := n2_
                           have HB := n3_
                           clear n0_ n1_ n2_ n3_
                           (try clear hb)
                           (try clear hb2)
                           (try clear hk)
                           (try clear hi)
                           refine hK.out _ _ ⟨(blk_cell BK507.out 0).trans rfl, (blk_cell BK507.out 1).trans rfl, (blk_cell BK507.out 2).trans rfl, (blk_cell BK507.out 3).trans rfl, (blk_cell BK507.out 4).trans rfl, (blk_cell BK507.out 5).trans rfl, HS6_, HS7_, HS8_, HS9_⟩ (fun hHeld => ?_)
                           clear hK K
                           refine norm_ (a' := ?_) ?_ ?_
                           rotate_left
                           ·show Act.put _ (some 99) _ = _
                            simp only [Act.put, List.setIfInBounds_toArray, List.set_cons_zero, List.set_cons_succ, i64_w, i32_w]
                            rfl
                           refine pure_ (i := 26) (N := some 100) (v := ?_) (a' := ?_) #[true, true, true, true, true, true, true, true, true, true, true, true, true, true, true, true, true, true, true, true, true, true, true, true, true, true, true, false] rfl rfl (any_of HT_.out (by kernel_rfl)) (fun _ _ _ h => h) (Or.inl ⟨by rfl, ?_⟩) ?_ ?_
                           rotate_left
                           ·intro w'
                            go_simp
                            with_reducible rfl
                           rotate_left
                           ·simp only [Act.put, List.setIfInBounds_toArray, List.set_cons_zero, List.set_cons_succ, i64_w, i32_w]
                            rfl
                           refine pure_ (i := 27) (N := some 101) (v := ?_) (a' := ?_) #[true, true, true, true, true, true, true, true, true, true, true, true, true, true, true, true, true, true, true, true, true, true, true, true, true, true, true, true] rfl rfl (any_of HT_.out (by kernel_rfl)) (fun _ _ _ h => h) (Or.inl ⟨by rfl, ?_⟩) ?_ ?_
                           rotate_left
                           ·intro w'
                            go_simp
                            with_reducible rfl
                           rotate_left
                           ·simp only [Act.put, List.setIfInBounds_toArray, List.set_cons_zero, List.set_cons_succ, i64_w, i32_w]
                            rfl
                           refine done_ (done_of HT_.out (by kernel_rfl)) ?_
                           go_wp2
                           go_roundg kj30
                           case measure => have := HJ5.out; have := HJ8.out; have := HJ13.out; have := HJ18.out; have := HJ25.out; have := HK6.out; have := HJ28.out; have := HK8.out; have := HJ30.out; omega
                           case rel => exact ⟨(x16_8), (wrap64 (x70_8 + 1)), (by first | rfl | (simp; done) | (simp [*]; done)), (by first | rfl | (simp; done) | (simp [*]; done)), H', ⟨by have := HJ5.out; have := HJ8.out; have := HJ13.out; have := HJ18.out; have := HJ25.out; have := HK6.out; have := HJ28.out; have := HK8.out; have := HJ30.out; omega⟩, ⟨by (with_reducible repeat (first | apply Kd.R_alloc | apply Kd.R_drewN | apply Kd.R_drew)); exact HO_11.out⟩, ⟨by (with_reducible repeat (first | apply Kd.R_alloc | apply Kd.R_drewN | apply Kd.R_drew)); exact HO_13.out⟩, ⟨by repeat (first | (with_reducible first | exact HB.out | apply below_alloc | apply pw_below_drewN | apply below_drew1 | refine below_set ?_ GE507.out) | exact HB.out)⟩⟩
                        ·rw [if_neg c54] at H
                         exact absurd H (by simp)
                       ·rw [if_neg c53] at H
                        exact absurd H (by simp)
                     ·rw [if_neg c45] at H
                      have c45b0 : (((rd_T40 l1 x70_8).f3) == x65_6) = false := beq_eq_false_iff_ne.mpr c45
                      have c45b1 : (((rd_T40 l1 x70_8).f3) != x65_6) = true := bne_iff_ne.mpr c45
                      have H' := Aside0.mk H
                      clear H
                      have p506 : 0 ≤ (x70_8 : Int) := of_decide_eq_true (by first | (with_reducible assumption) | assumption)
                      have q506 : x70_8 < (l1.length : Int) := of_decide_eq_true (by first | (with_reducible assumption) | assumption)
                      obtain ⟨ad506, e506, hx506_0, hx506_1, hx506_2, hx506_3, hx506_4, hx506_5⟩ := at_T40 HR1.out x70_8 p506 q506
                      cases e506
                      replace hx506_0 := (HB.out.cell (World.block_lt_of_cell? w _ hx506_0)).trans hx506_0
                      replace hx506_1 := (HB.out.cell (World.block_lt_of_cell? w _ hx506_1)).trans hx506_1
                      replace hx506_2 := (HB.out.cell (World.block_lt_of_cell? w _ hx506_2)).trans hx506_2
                      replace hx506_3 := (HB.out.cell (World.block_lt_of_cell? w _ hx506_3)).trans hx506_3
                      replace hx506_4 := (HB.out.cell (World.block_lt_of_cell? w _ hx506_4)).trans hx506_4
                      replace hx506_5 := (HB.out.cell (World.block_lt_of_cell? w _ hx506_5)).trans hx506_5
                      replace p506 := eq_true p506
                      replace q506 := eq_true q506
                      go_wp2_with ((with_reducible refine gate_dst (N := 18) rfl ?_); refine Aside0.out (p := _) ?_)
                      refine ⟨?_⟩
                      refine box_event ?hg (N := 18) ?hd (cs := #[.int .i64 0, .int .i64 0, .int .i64 0, .int .i64 0, .int .i64 0, .int .i64 0]) (t := 40) ?hr ?_; (case hd => rfl); (case hg => rfl); (case hr => first | (go_simp; done) | (go_simp; rfl))
                      intro gb507 hg w75 hbox hb
                      have n0_ := Aside0.mk (Kd.R_below (by (with_reducible repeat (first | apply Kd.R_alloc | apply Kd.R_drewN | apply Kd.R_drew)); exact HO_11.out) hb)
                      have n1_ := Aside0.mk (Kd.R_below (by (with_reducible repeat (first | apply Kd.R_alloc | apply Kd.R_drewN | apply Kd.R_drew)); exact HO_13.out) hb)
                      have n2_ := Aside0.mk (below_step (by repeat (first | (with_reducible first | exact HB.out | apply below_alloc | apply pw_below_drewN | apply below_drew1) | exact HB.out)) hb)
                      have n3_ := Aside0.mk (hbox)
                      have n4_ := Aside0.mk ((by rw [hg]; exact (below_size (by repeat (first | (with_reducible first | exact HB.out | apply below_alloc | apply pw_below_drewN | apply below_drew1) | exact HB.out))) : w.heap.size ≤ gb507))
                      have n5_ := Aside0.mk ((by rw [hg]; exact (below_size (by repeat (first | (with_reducible first | exact HB.out | apply below_alloc | apply pw_below_drewN | apply below_drew1) | exact HB.out))) : w.heap.size ≤ gb507))
                      clear HO_11
                      clear HO_13
                      clear HB
                      have HO_11 := n0_
                      have HO_13 := n1_
                      have HB := n2_
                      have BK507 := n3_
                      have GW507 := n4_
                      have GE507 := n5_
                      clear n0_ n1_ n2_ n3_ n4_ n5_
                      clear hb hbox hg
                      have hcz76_0 : w75.cell? ⟨gb507, 0, none⟩ = some (.int .i64 0) := (blk_cell BK507.out 0).trans rfl
                      have hcz76_1 : w75.cell? ⟨gb507, 1, none⟩ = some (.int .i64 0) := (blk_cell BK507.out 1).trans rfl
                      have hcz76_2 : w75.cell? ⟨gb507, 2, none⟩ = some (.int .i64 0) := (blk_cell BK507.out 2).trans rfl
                      have hcz76_3 : w75.cell? ⟨gb507, 3, none⟩ = some (.int .i64 0) := (blk_cell BK507.out 3).trans rfl
                      have hcz76_4 : w75.cell? ⟨gb507, 4, none⟩ = some (.int .i64 0) := (blk_cell BK507.out 4).trans rfl
                      have hcz76_5 : w75.cell? ⟨gb507, 5, none⟩ = some (.int .i64 0) := (blk_cell BK507.out 5).trans rfl
                      have hfz76_0 := blk_frozen BK507.out 0
                      have hfz76_1 := blk_frozen BK507.out 1
                      have hfz76_2 := blk_frozen BK507.out 2
                      have hfz76_3 := blk_frozen BK507.out 3
                      have hfz76_4 := blk_frozen BK507.out 4
                      have hfz76_5 := blk_frozen BK507.out 5
                      go_wp2
                      have n0_ : Aside0 (Kd.R k47 47 ((((((w75.setCell ⟨gb507, 0, none⟩ (.int .i64 ((rd_T40 l1 x70_8).f0))).setCell ⟨gb507, 1, none⟩ (.int .i64 ((rd_T40 l1 x70_8).f1))).setCell ⟨gb507, 2, none⟩ (.int .i64 ((rd_T40 l1 x70_8).f2))).setCell ⟨gb507, 3, none⟩ (.int .i64 ((rd_T40 l1 x70_8).f3))).setCell ⟨gb507, 4, none⟩ (.int .i64 ((rd_T40 l1 x70_8).f4))).setCell ⟨gb507, 5, none⟩ (.int .i64 ((rd_T40 l1 x70_8).f5))) w.heap.size (fun k_ => some k_ ≠ (v497 : Value).ownBlock) (.slice Ao28 t491.length co28) t491) := ⟨by (with_reducible repeat (first | apply Kd.R_alloc | apply Kd.R_drewN | apply Kd.R_drew)); exact Kd.R_mono (Kd.R_far (p := ⟨gb507, 5, none⟩) (Kd.R_far (p := ⟨gb507, 4, none⟩) (Kd.R_far (p := ⟨gb507, 3, none⟩) (Kd.R_far (p := ⟨gb507, 2, none⟩) (Kd.R_far (p := ⟨gb507, 1, none⟩) (Kd.R_far (p := ⟨gb507, 0, none⟩) (Kd.R_types HO_11.out BK507.out (by decide)) (fun _ hk => hk.2) (.int .i64 ((rd_T40 l1 x70_8).f0))) (fun _ hk => hk.2) (.int .i64 ((rd_T40 l1 x70_8).f1))) (fun _ hk => hk.2) (.int .i64 ((rd_T40 l1 x70_8).f2))) (fun _ hk => hk.2) (.int .i64 ((rd_T40 l1 x70_8).f3))) (fun _ hk => hk.2) (.int .i64 ((rd_T40 l1 x70_8).f4))) (fun _ hk => hk.2) (.int .i64 ((rd_T40 l1 x70_8).f5))) (fun _ hk => hk.1)⟩
                      have n1_ : Aside0 (Kd.R k47 47 ((((((w75.setCell ⟨gb507, 0, none⟩ (.int .i64 ((rd_T40 l1 x70_8).f0))).setCell ⟨gb507, 1, none⟩ (.int .i64 ((rd_T40 l1 x70_8).f1))).setCell ⟨gb507, 2, none⟩ (.int .i64 ((rd_T40 l1 x70_8).f2))).setCell ⟨gb507, 3, none⟩ (.int .i64 ((rd_T40 l1 x70_8).f3))).setCell ⟨gb507, 4, none⟩ (.int .i64 ((rd_T40 l1 x70_8).f4))).setCell ⟨gb507, 5, none⟩ (.int .i64 ((rd_T40 l1 x70_8).f5))) w.heap.size (fun k_ => some k_ ≠ (.slice Ao28 t491.length co28 : Value).ownBlock) v497 t495) := ⟨by (with_reducible repeat (first | apply Kd.R_alloc | apply Kd.R_drewN | apply Kd.R_drew)); exact Kd.R_mono (Kd.R_far (p := ⟨gb507, 5, none⟩) (Kd.R_far (p := ⟨gb507, 4, none⟩) (Kd.R_far (p := ⟨gb507, 3, none⟩) (Kd.R_far (p := ⟨gb507, 2, none⟩) (Kd.R_far (p := ⟨gb507, 1, none⟩) (Kd.R_far (p := ⟨gb507, 0, none⟩) (Kd.R_types HO_13.out BK507.out (by decide)) (fun _ hk => hk.2) (.int .i64 ((rd_T40 l1 x70_8).f0))) (fun _ hk => hk.2) (.int .i64 ((rd_T40 l1 x70_8).f1))) (fun _ hk => hk.2) (.int .i64 ((rd_T40 l1 x70_8).f2))) (fun _ hk => hk.2) (.int .i64 ((rd_T40 l1 x70_8).f3))) (fun _ hk => hk.2) (.int .i64 ((rd_T40 l1 x70_8).f4))) (fun _ hk => hk.2) (.int .i64 ((rd_T40 l1 x70_8).f5))) (fun _ hk => hk.1)⟩
                      have n2_ : Aside0 (((((((w75.setCell ⟨gb507, 0, none⟩ (.int .i64 ((rd_T40 l1 x70_8).f0))).setCell ⟨gb507, 1, none⟩ (.int .i64 ((rd_T40 l1 x70_8).f1))).setCell ⟨gb507, 2, none⟩ (.int .i64 ((rd_T40 l1 x70_8).f2))).setCell ⟨gb507, 3, none⟩ (.int .i64 ((rd_T40 l1 x70_8).f3))).setCell ⟨gb507, 4, none⟩ (.int .i64 ((rd_T40 l1 x70_8).f4))).setCell ⟨gb507, 5, none⟩ (.int .i64 ((rd_T40 l1 x70_8).f5))).heap[gb507]? = some (.cells #[.int .i64 ((rd_T40 l1 x70_8).f0), .int .i64 ((rd_T40 l1 x70_8).f1), .int .i64 ((rd_T40 l1 x70_8).f2), .int .i64 ((rd_T40 l1 x70_8).f3), .int .i64 ((rd_T40 l1 x70_8).f4), .int .i64 ((rd_T40 l1 x70_8).f5)] 40 (0, 0))) := ⟨by (with_reducible repeat (first | refine blk_drewN ?_ _ | refine blk_drew ?_ | refine blk_alloc ?_ _)); refine blk_put (cs := #[.int .i64 ((rd_T40 l1 x70_8).f0), .int .i64 ((rd_T40 l1 x70_8).f1), .int .i64 ((rd_T40 l1 x70_8).f2), .int .i64 ((rd_T40 l1 x70_8).f3), .int .i64 ((rd_T40 l1 x70_8).f4), .int .i64 0]) ?_ 5 _ rfl; (with_reducible repeat (first | refine blk_drewN ?_ _ | refine blk_drew ?_ | refine blk_alloc ?_ _)); refine blk_put (cs := #[.int .i64 ((rd_T40 l1 x70_8).f0), .int .i64 ((rd_T40 l1 x70_8).f1), .int .i64 ((rd_T40 l1 x70_8).f2), .int .i64 ((rd_T40 l1 x70_8).f3), .int .i64 0, .int .i64 0]) ?_ 4 _ rfl; (with_reducible repeat (first | refine blk_drewN ?_ _ | refine blk_drew ?_ | refine blk_alloc ?_ _)); refine blk_put (cs := #[.int .i64 ((rd_T40 l1 x70_8).f0), .int .i64 ((rd_T40 l1 x70_8).f1), .int .i64 ((rd_T40 l1 x70_8).f2), .int .i64 0, .int .i64 0, .int .i64 0]) ?_ 3 _ rfl; (with_reducible repeat (first | refine blk_drewN ?_ _ | refine blk_drew ?_ | refine blk_alloc ?_ _)); refine blk_put (cs := #[.int .i64 ((rd_T40 l1 x70_8).f0), .int .i64 ((rd_T40 l1 x70_8).f1), .int .i64 0, .int .i64 0, .int .i64 0, .int .i64 0]) ?_ 2 _ rfl; (with_reducible repeat (first | refine blk_drewN ?_ _ | refine blk_drew ?_ | refine blk_alloc ?_ _)); refine blk_put (cs := #[.int .i64 ((rd_T40 l1 x70_8).f0), .int .i64 0, .int .i64 0, .int .i64 0, .int .i64 0, .int .i64 0]) ?_ 1 _ rfl; (with_reducible repeat (first | refine blk_drewN ?_ _ | refine blk_drew ?_ | refine blk_alloc ?_ _)); refine blk_put (cs := #[.int .i64 0, .int .i64 0, .int .i64 0, .int .i64 0, .int .i64 0, .int .i64 0]) ?_ 0 _ rfl; (with_reducible repeat (first | refine blk_drewN ?_ _ | refine blk_drew ?_ | refine blk_alloc ?_ _)); exact BK507.out⟩
                      have n3_ : Aside0 (Below w.heap.size w ((((((w75.setCell ⟨gb507, 0, none⟩ (.int .i64 ((rd_T40 l1 x70_8).f0))).setCell ⟨gb507, 1, none⟩ (.int .i64 ((rd_T40 l1 x70_8).f1))).setCell ⟨gb507, 2, none⟩ (.int .i64 ((rd_T40 l1 x70_8).f2))).setCell ⟨gb507, 3, none⟩ (.int .i64 ((rd_T40 l1 x70_8).f3))).setCell ⟨gb507, 4, none⟩ (.int .i64 ((rd_T40 l1 x70_8).f4))).setCell ⟨gb507, 5, none⟩ (.int .i64 ((rd_T40 l1 x70_8).f5)))) := ⟨by repeat (first | (with_reducible first | exact HB.out | apply below_alloc | apply pw_below_drewN | apply below_drew1 | refine below_set ?_ GE507.out) | exact HB.out)⟩
                      (try clear HO_11)
                      (try clear HO_13)
                      (try clear BK507)
                      (try clear HB)
                      generalize ((((((w75.setCell ⟨gb507, 0, none⟩ (.int .i64 ((rd_T40 l1 x70_8).f0))).setCell ⟨gb507, 1, none⟩ (.int .i64 ((rd_T40 l1 x70_8).f1))).setCell ⟨gb507, 2, none⟩ (.int .i64 ((rd_T40 l1 x70_8).f2))).setCell ⟨gb507, 3, none⟩ (.int .i64 ((rd_T40 l1 x70_8).f3))).setCell ⟨gb507, 4, none⟩ (.int .i64 ((rd_T40 l1 x70_8).f4))).setCell ⟨gb507, 5, none⟩ (.int .i64 ((rd_T40 l1 x70_8).f5))) = w77 at n0_ n1_ n2_ n3_ ⊢
                      have HO_11 := n0_
                      have HO_13 := n1_
                      have BK507 := n2_
                      have HB := n3_
                      clear n0_ n1_ n2_ n3_
                      have n0_ := Aside0.mk (Kd.R_drew HO_11.out)
                      have n1_ := Aside0.mk (Kd.R_drew HO_13.out)
                      have n2_ := Aside0.mk (blk_drew BK507.out)
                      have n3_ := Aside0.mk (below_drew1 HB.out)
                      clear HO_11
                      clear HO_13
                      clear BK507
                      clear HB
                      have HO_11 := n0_
                      have HO_13 := n1_
                      have BK507 := n2_
                      have HB := n3_
                      clear n0_ n1_ n2_ n3_
                      refine start_ (n := 28) (S := fun w' => w'.cell? ⟨gb507, 0, none⟩ = some (.int .i64 ((rd_T40 l1 x70_8).f0)) ∧ w'.cell? ⟨gb507, 1, none⟩ = some (.int .i64 ((rd_T40 l1 x70_8).f1)) ∧ w'.cell? ⟨gb507, 2, none⟩ = some (.int .i64 ((rd_T40 l1 x70_8).f2)) ∧ w'.cell? ⟨gb507, 3, none⟩ = some (.int .i64 ((rd_T40 l1 x70_8).f3)) ∧ w'.cell? ⟨gb507, 4, none⟩ = some (.int .i64 ((rd_T40 l1 x70_8).f4)) ∧ w'.cell? ⟨gb507, 5, none⟩ = some (.int .i64 ((rd_T40 l1 x70_8).f5))) (ds := []) #[false, false, false, false, false, false, false, false, false, false, false, false, false, false, false, false, false, false, false, false, false, false, false, false, false, false, false, false] (by kernel_rfl) rfl rfl ⟨(blk_cell BK507.out 0).trans rfl, (blk_cell BK507.out 1).trans rfl, (blk_cell BK507.out 2).trans rfl, (blk_cell BK507.out 3).trans rfl, (blk_cell BK507.out 4).trans rfl, (blk_cell BK507.out 5).trans rfl⟩ (fun hHeld => ?_); refine with_tabW testamurlaw42_DevicesStale.tab17 testamurlaw42_DevicesStale.bits17 (fun HT_ HW_ => ?_)
                      generalize w77.drew = w78 at HO_11 HO_13 BK507 HB hHeld ⊢
                      refine pure_ (i := 0) (N := some 74) (v := ?_) (a' := ?_) #[true, false, false, false, false, false, false, false, false, false, false, false, false, false, false, false, false, false, false, false, false, false, false, false, false, false, false, false] rfl rfl (any_of HT_.out (by kernel_rfl)) (fun _ _ _ h => h) (Or.inl ⟨by rfl, ?_⟩) ?_ ?_
                      rotate_left
                      ·intro w'
                       go_simp
                       with_reducible rfl
                      rotate_left
                      ·simp only [Act.put, List.setIfInBounds_toArray, List.set_cons_zero, List.set_cons_succ, i64_w, i32_w]
                       rfl
                      refine pure_ (i := 2) (N := some 76) (v := ?_) (a' := ?_) #[true, false, true, false, false, false, false, false, false, false, false, false, false, false, false, false, false, false, false, false, false, false, false, false, false, false, false, false] rfl rfl (any_of HT_.out (by kernel_rfl)) (fun _ _ _ h => h) (Or.inl ⟨by rfl, ?_⟩) ?_ ?_
                      rotate_left
                      ·intro w'
                       go_simp
                       with_reducible rfl
                      rotate_left
                      ·simp only [Act.put, List.setIfInBounds_toArray, List.set_cons_zero, List.set_cons_succ, i64_w, i32_w]
                       rfl
                      refine take_ (i := 1) (N := some 75) (v := ?_) (a' := ?_) #[true, true, true, false, false, false, false, false, false, false, false, false, false, false, false, false, false, false, false, false, false, false, false, false, false, false, false, false] rfl rfl (take_ofW HT_.out HW_.out (by kernel_rfl)) (fun _ _ _ h => h) (Or.inl ⟨by rfl, ?_⟩) hHeld ?_ ?_
                      rotate_left
                      ·rintro w' ⟨s0, s1, s2, s3, s4, s5⟩
                       go_simp
                       with_reducible rfl
                      rotate_left
                      ·simp only [Act.put, List.setIfInBounds_toArray, List.set_cons_zero, List.set_cons_succ, i64_w, i32_w]
                       rfl
                      refine pure_ (i := 3) (N := some 77) (v := ?_) (a' := ?_) #[true, true, true, true, false, false, false, false, false, false, false, false, false, false, false, false, false, false, false, false, false, false, false, false, false, false, false, false] rfl rfl (any_of HT_.out (by kernel_rfl)) (fun _ _ _ h => h) (Or.inl ⟨by rfl, ?_⟩) ?_ ?_
                      rotate_left
                      ·intro w'
                       go_simp
                       with_reducible rfl
                      rotate_left
                      ·simp only [Act.put, List.setIfInBounds_toArray, List.set_cons_zero, List.set_cons_succ, i64_w, i32_w]
                       rfl
                      refine pure_ (i := 4) (N := some 78) (v := ?_) (a' := ?_) #[true, true, true, true, true, false, false, false, false, false, false, false, false, false, false, false, false, false, false, false, false, false, false, false, false, false, false, false] rfl rfl (any_of HT_.out (by kernel_rfl)) (fun _ _ _ h => h) (Or.inl ⟨by rfl, ?_⟩) ?_ ?_
                      rotate_left
                      ·intro w'
                       go_simp
                       with_reducible rfl
                      rotate_left
                      ·simp only [Act.put, List.setIfInBounds_toArray, List.set_cons_zero, List.set_cons_succ, i64_w, i32_w]
                       rfl
                      refine pure_ (i := 5) (N := some 79) (v := undef) (a' := ?_) #[true, true, true, true, true, true, false, false, false, false, false, false, false, false, false, false, false, false, false, false, false, false, false, false, false, false, false, false] rfl rfl (any_of HT_.out (by kernel_rfl)) (fun _ _ _ h => h) (Or.inr ⟨by rfl, rfl⟩) ?_ ?_
                      rotate_left
                      ·simp only [Act.put, List.setIfInBounds_toArray, List.set_cons_zero, List.set_cons_succ, i64_w, i32_w]
                       rfl
                      refine pure_ (i := 6) (N := some 80) (v := undef) (a' := ?_) #[true, true, true, true, true, true, true, false, false, false, false, false, false, false, false, false, false, false, false, false, false, false, false, false, false, false, false, false] rfl rfl (any_of HT_.out (by kernel_rfl)) (fun _ _ _ h => h) (Or.inr ⟨by rfl, rfl⟩) ?_ ?_
                      rotate_left
                      ·simp only [Act.put, List.setIfInBounds_toArray, List.set_cons_zero, List.set_cons_succ, i64_w, i32_w]
                       rfl
                      refine pure_ (i := 7) (N := some 81) (v := undef) (a' := ?_) #[true, true, true, true, true, true, true, true, false, false, false, false, false, false, false, false, false, false, false, false, false, false, false, false, false, false, false, false] rfl rfl (any_of HT_.out (by kernel_rfl)) (fun _ _ _ h => h) (Or.inr ⟨by rfl, rfl⟩) ?_ ?_
                      rotate_left
                      ·simp only [Act.put, List.setIfInBounds_toArray, List.set_cons_zero, List.set_cons_succ, i64_w, i32_w]
                       rfl
                      refine pure_ (i := 8) (N := some 82) (v := undef) (a' := ?_) #[true, true, true, true, true, true, true, true, true, false, false, false, false, false, false, false, false, false, false, false, false, false, false, false, false, false, false, false] rfl rfl (any_of HT_.out (by kernel_rfl)) (fun _ _ _ h => h) (Or.inr ⟨by rfl, rfl⟩) ?_ ?_
                      rotate_left
                      ·simp only [Act.put, List.setIfInBounds_toArray, List.set_cons_zero, List.set_cons_succ, i64_w, i32_w]
                       rfl
                      refine pure_ (i := 9) (N := some 83) (v := ?_) (a' := ?_) #[true, true, true, true, true, true, true, true, true, true, false, false, false, false, false, false, false, false, false, false, false, false, false, false, false, false, false, false] rfl rfl (any_of HT_.out (by kernel_rfl)) (fun _ _ _ h => h) (Or.inl ⟨by rfl, ?_⟩) ?_ ?_
                      rotate_left
                      ·intro w'
                       go_simp
                       with_reducible rfl
                      rotate_left
                      ·simp only [Act.put, List.setIfInBounds_toArray, List.set_cons_zero, List.set_cons_succ, i64_w, i32_w]
                       rfl
                      refine pure_ (i := 10) (N := some 84) (v := ?_) (a' := ?_) #[true, true, true, true, true, true, true, true, true, true, true, false, false, false, false, false, false, false, false, false, false, false, false, false, false, false, false, false] rfl rfl (any_of HT_.out (by kernel_rfl)) (fun _ _ _ h => h) (Or.inl ⟨by rfl, ?_⟩) ?_ ?_
                      rotate_left
                      ·intro w'
                       go_simp
                       with_reducible rfl
                      rotate_left
                      ·simp only [Act.put, List.setIfInBounds_toArray, List.set_cons_zero, List.set_cons_succ, i64_w, i32_w]
                       rfl
                      refine pure_ (i := 11) (N := some 85) (v := undef) (a' := ?_) #[true, true, true, true, true, true, true, true, true, true, true, true, false, false, false, false, false, false, false, false, false, false, false, false, false, false, false, false] rfl rfl (any_of HT_.out (by kernel_rfl)) (fun _ _ _ h => h) (Or.inr ⟨by rfl, rfl⟩) ?_ ?_
                      rotate_left
                      ·simp only [Act.put, List.setIfInBounds_toArray, List.set_cons_zero, List.set_cons_succ, i64_w, i32_w]
                       rfl
                      refine pure_ (i := 12) (N := some 86) (v := undef) (a' := ?_) #[true, true, true, true, true, true, true, true, true, true, true, true, true, false, false, false, false, false, false, false, false, false, false, false, false, false, false, false] rfl rfl (any_of HT_.out (by kernel_rfl)) (fun _ _ _ h => h) (Or.inr ⟨by rfl, rfl⟩) ?_ ?_
                      rotate_left
                      ·simp only [Act.put, List.setIfInBounds_toArray, List.set_cons_zero, List.set_cons_succ, i64_w, i32_w]
                       rfl
                      refine pure_ (i := 13) (N := some 87) (v := undef) (a' := ?_) #[true, true, true, true, true, true, true, true, true, true, true, true, true, true, false, false, false, false, false, false, false, false, false, false, false, false, false, false] rfl rfl (any_of HT_.out (by kernel_rfl)) (fun _ _ _ h => h) (Or.inr ⟨by rfl, rfl⟩) ?_ ?_
                      rotate_left
                      ·simp only [Act.put, List.setIfInBounds_toArray, List.set_cons_zero, List.set_cons_succ, i64_w, i32_w]
                       rfl
                      refine pure_ (i := 14) (N := some 88) (v := undef) (a' := ?_) #[true, true, true, true, true, true, true, true, true, true, true, true, true, true, true, false, false, false, false, false, false, false, false, false, false, false, false, false] rfl rfl (any_of HT_.out (by kernel_rfl)) (fun _ _ _ h => h) (Or.inr ⟨by rfl, rfl⟩) ?_ ?_
                      rotate_left
                      ·simp only [Act.put, List.setIfInBounds_toArray, List.set_cons_zero, List.set_cons_succ, i64_w, i32_w]
                       rfl
                      refine pure_ (i := 15) (N := some 89) (v := undef) (a' := ?_) #[true, true, true, true, true, true, true, true, true, true, true, true, true, true, true, true, false, false, false, false, false, false, false, false, false, false, false, false] rfl rfl (any_of HT_.out (by kernel_rfl)) (fun _ _ _ h => h) (Or.inr ⟨by rfl, rfl⟩) ?_ ?_
                      rotate_left
                      ·simp only [Act.put, List.setIfInBounds_toArray, List.set_cons_zero, List.set_cons_succ, i64_w, i32_w]
                       rfl
                      refine pure_ (i := 16) (N := some 90) (v := undef) (a' := ?_) #[true, true, true, true, true, true, true, true, true, true, true, true, true, true, true, true, true, false, false, false, false, false, false, false, false, false, false, false] rfl rfl (any_of HT_.out (by kernel_rfl)) (fun _ _ _ h => h) (Or.inr ⟨by rfl, rfl⟩) ?_ ?_
                      rotate_left
                      ·simp only [Act.put, List.setIfInBounds_toArray, List.set_cons_zero, List.set_cons_succ, i64_w, i32_w]
                       rfl
                      refine pure_ (i := 17) (N := some 91) (v := undef) (a' := ?_) #[true, true, true, true, true, true, true, true, true, true, true, true, true, true, true, true, true, true, false, false, false, false, false, false, false, false, false, false] rfl rfl (any_of HT_.out (by kernel_rfl)) (fun _ _ _ h => h) (Or.inr ⟨by rfl, rfl⟩) ?_ ?_
                      rotate_left
                      ·simp only [Act.put, List.setIfInBounds_toArray, List.set_cons_zero, List.set_cons_succ, i64_w, i32_w]
                       rfl
                      refine pure_ (i := 18) (N := some 92) (v := undef) (a' := ?_) #[true, true, true, true, true, true, true, true, true, true, true, true, true, true, true, true, true, true, true, false, false, false, false, false, false, false, false, false] rfl rfl (any_of HT_.out (by kernel_rfl)) (fun _ _ _ h => h) (Or.inr ⟨by rfl, rfl⟩) ?_ ?_
                      rotate_left
                      ·simp only [Act.put, List.setIfInBounds_toArray, List.set_cons_zero, List.set_cons_succ, i64_w, i32_w]
                       rfl
                      refine pure_ (i := 19) (N := some 93) (v := undef) (a' := ?_) #[true, true, true, true, true, true, true, true, true, true, true, true, true, true, true, true, true, true, true, true, false, false, false, false, false, false, false, false] rfl rfl (any_of HT_.out (by kernel_rfl)) (fun _ _ _ h => h) (Or.inr ⟨by rfl, rfl⟩) ?_ ?_
                      rotate_left
                      ·simp only [Act.put, List.setIfInBounds_toArray, List.set_cons_zero, List.set_cons_succ, i64_w, i32_w]
                       rfl
                      refine pure_ (i := 20) (N := some 94) (v := undef) (a' := ?_) #[true, true, true, true, true, true, true, true, true, true, true, true, true, true, true, true, true, true, true, true, true, false, false, false, false, false, false, false] rfl rfl (any_of HT_.out (by kernel_rfl)) (fun _ _ _ h => h) (Or.inr ⟨by rfl, rfl⟩) ?_ ?_
                      rotate_left
                      ·simp only [Act.put, List.setIfInBounds_toArray, List.set_cons_zero, List.set_cons_succ, i64_w, i32_w]
                       rfl
                      refine pure_ (i := 21) (N := some 95) (v := undef) (a' := ?_) #[true, true, true, true, true, true, true, true, true, true, true, true, true, true, true, true, true, true, true, true, true, true, false, false, false, false, false, false] rfl rfl (any_of HT_.out (by kernel_rfl)) (fun _ _ _ h => h) (Or.inr ⟨by rfl, rfl⟩) ?_ ?_
                      rotate_left
                      ·simp only [Act.put, List.setIfInBounds_toArray, List.set_cons_zero, List.set_cons_succ, i64_w, i32_w]
                       rfl
                      refine pure_ (i := 22) (N := some 96) (v := undef) (a' := ?_) #[true, true, true, true, true, true, true, true, true, true, true, true, true, true, true, true, true, true, true, true, true, true, true, false, false, false, false, false] rfl rfl (any_of HT_.out (by kernel_rfl)) (fun _ _ _ h => h) (Or.inr ⟨by rfl, rfl⟩) ?_ ?_
                      rotate_left
                      ·simp only [Act.put, List.setIfInBounds_toArray, List.set_cons_zero, List.set_cons_succ, i64_w, i32_w]
                       rfl
                      refine pure_ (i := 23) (N := some 97) (v := undef) (a' := ?_) #[true, true, true, true, true, true, true, true, true, true, true, true, true, true, true, true, true, true, true, true, true, true, true, true, false, false, false, false] rfl rfl (any_of HT_.out (by kernel_rfl)) (fun _ _ _ h => h) (Or.inr ⟨by rfl, rfl⟩) ?_ ?_
                      rotate_left
                      ·simp only [Act.put, List.setIfInBounds_toArray, List.set_cons_zero, List.set_cons_succ, i64_w, i32_w]
                       rfl
                      refine pure_ (i := 24) (N := some 98) (v := undef) (a' := ?_) #[true, true, true, true, true, true, true, true, true, true, true, true, true, true, true, true, true, true, true, true, true, true, true, true, true, false, false, false] rfl rfl (any_of HT_.out (by kernel_rfl)) (fun _ _ _ h => h) (Or.inr ⟨by rfl, rfl⟩) ?_ ?_
                      rotate_left
                      ·simp only [Act.put, List.setIfInBounds_toArray, List.set_cons_zero, List.set_cons_succ, i64_w, i32_w]
                       rfl
                      refine pure_ (i := 25) (N := some 99) (v := undef) (a' := ?_) #[true, true, true, true, true, true, true, true, true, true, true, true, true, true, true, true, true, true, true, true, true, true, true, true, true, true, false, false] rfl rfl (any_of HT_.out (by kernel_rfl)) (fun _ _ _ h => h) (Or.inr ⟨by rfl, rfl⟩) ?_ ?_
                      rotate_left
                      ·simp only [Act.put, List.setIfInBounds_toArray, List.set_cons_zero, List.set_cons_succ, i64_w, i32_w]
                       rfl
                      refine pure_ (i := 26) (N := some 100) (v := undef) (a' := ?_) #[true, true, true, true, true, true, true, true, true, true, true, true, true, true, true, true, true, true, true, true, true, true, true, true, true, true, true, false] rfl rfl (any_of HT_.out (by kernel_rfl)) (fun _ _ _ h => h) (Or.inr ⟨by rfl, rfl⟩) ?_ ?_
                      rotate_left
                      ·simp only [Act.put, List.setIfInBounds_toArray, List.set_cons_zero, List.set_cons_succ, i64_w, i32_w]
                       rfl
                      refine pure_ (i := 27) (N := some 101) (v := ?_) (a' := ?_) #[true, true, true, true, true, true, true, true, true, true, true, true, true, true, true, true, true, true, true, true, true, true, true, true, true, true, true, true] rfl rfl (any_of HT_.out (by kernel_rfl)) (fun _ _ _ h => h) (Or.inl ⟨by rfl, ?_⟩) ?_ ?_
                      rotate_left
                      ·intro w'
                       go_simp
                       with_reducible rfl
                      rotate_left
                      ·simp only [Act.put, List.setIfInBounds_toArray, List.set_cons_zero, List.set_cons_succ, i64_w, i32_w]
                       rfl
                      refine done_ (done_of HT_.out (by kernel_rfl)) ?_
                      go_wp2
                      go_roundg kj30
                      case measure => have := HJ5.out; have := HJ8.out; have := HJ13.out; have := HJ18.out; have := HJ25.out; have := HK6.out; have := HJ28.out; have := HK8.out; have := HJ30.out; omega
                      case rel => exact ⟨(x16_8), (wrap64 (x70_8 + 1)), (by first | rfl | (simp; done) | (simp [*]; done)), (by first | rfl | (simp; done) | (simp [*]; done)), H', ⟨by have := HJ5.out; have := HJ8.out; have := HJ13.out; have := HJ18.out; have := HJ25.out; have := HK6.out; have := HJ28.out; have := HK8.out; have := HJ30.out; omega⟩, ⟨by (with_reducible repeat (first | apply Kd.R_alloc | apply Kd.R_drewN | apply Kd.R_drew)); exact HO_11.out⟩, ⟨by (with_reducible repeat (first | apply Kd.R_alloc | apply Kd.R_drewN | apply Kd.R_drew)); exact HO_13.out⟩, ⟨by repeat (first | (with_reducible first | exact HB.out | apply below_alloc | apply pw_below_drewN | apply below_drew1 | refine below_set ?_ GE507.out) | exact HB.out)⟩⟩
                    ·rw [if_neg c44] at H
                     exact absurd H (by simp)
                   ·rw [if_neg c43] at H
                    exact absurd H (by simp)

end Go.Proofs.Ytkclehmjkncmnaa.P
