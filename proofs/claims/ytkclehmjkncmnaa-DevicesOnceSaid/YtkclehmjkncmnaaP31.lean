-- printed by gprint.py (a program of this seat over the kit's print.py): Lean checks it
import Derived.Test.YtkclehmjkncmnaaP0
import Derived.Test.YtkclehmjkncmnaaPA
import Derived.Test.YtkclehmjkncmnaaPB
import Derived.Test.YtkclehmjkncmnaaP11
import Derived.Test.YtkclehmjkncmnaaGD
import Derived.Test.YtkclehmjkncmnaaH
namespace Go.Proofs.Ytkclehmjkncmnaa.P
open Go.RowKit Go.Proofs.YtkclehmjkncmnaaW.PrintWords Go.Proofs.YtkclehmjkncmnaaW.PrintLast Go.Proofs.YtkclehmjkncmnaaW.PrintMore
attribute [local go_sem] max2_int min2_int max_two min_two max_three min_three max_four min_four   -- for this text's walks alone
set_option linter.unusedVariables false
set_option linter.unusedSimpArgs false

attribute [local go_sem high] eqA47
/-! ### testamurlaw42_DevicesOnce: function 8 -/
mutual
def testamurlaw42_DevicesOnce.j0 : Nat → List (S40) → Int → Int → Option (Bool)
 | 0, _, _, _ => none
 | k + 1, x0, x1, x2 => (testamurref42_Few.f x0).bind fun t434 => (if t434 = true then (testamurlaw42_DevicesOnce.j1 k x0 x1 x2 (decide (x1 > 50))) else (testamurlaw42_DevicesOnce.j1 k x0 x1 x2 true))
def testamurlaw42_DevicesOnce.j1 : Nat → List (S40) → Int → Int → Bool → Option (Bool)
 | 0, _, _, _, _ => none
 | k + 1, x0, x1, x2, x26 => if x26 = true then (some true) else (testamurlaw42_DevicesOnce.j2 k x0 x1 x2)
def testamurlaw42_DevicesOnce.j2 : Nat → List (S40) → Int → Int → Option (Bool)
 | 0, _, _, _ => none
 | k + 1, x0, x1, x2 => (devices_State.f x0 x1 x2).bind fun bt435 => (if bt435.2 = 0 then (testamurlaw42_DevicesOnce.j3 k x0 x1 x2 bt435.1) else (some ((bt435.1.length : Int) == 0)))
def testamurlaw42_DevicesOnce.j3 : Nat → List (S40) → Int → Int → List (S47) → Option (Bool)
 | 0, _, _, _, _ => none
 | k + 1, x0, x1, x2, x7 => if (x7.length : Int) = x1 then (testamurlaw42_DevicesOnce.j4 k x0 x1 x2 x7) else (some false)
def testamurlaw42_DevicesOnce.j4 : Nat → List (S40) → Int → Int → List (S47) → Option (Bool)
 | 0, _, _, _, _ => none
 | k + 1, x0, x1, x2, x7 => testamurlaw42_DevicesOnce.l0 k x0 x1 x2 x7 (x7.length : Int) 0
def testamurlaw42_DevicesOnce.l0 : Nat → List (S40) → Int → Int → List (S47) → Int → Int → Option (Bool)
 | 0, _, _, _, _, _, _ => none
 | k + 1, x0, x1, x2, x43, x44, x45 => if x45 < x44 then (testamurlaw42_DevicesOnce.j6 k x0 x1 x2 x43 x44 x45) else (some true)
def testamurlaw42_DevicesOnce.j6 : Nat → List (S40) → Int → Int → List (S47) → Int → Int → Option (Bool)
 | 0, _, _, _, _, _, _ => none
 | k + 1, x0, x1, x2, x43, x44, x45 => if 0 ≤ x45 then (if x45 < (x43.length : Int) then (testamurlaw42_DevicesOnce.l1 k x0 x1 x2 x45 0 x43 x44 x45 0 ((rd_T47 x43 x45).f0) ((rd_T47 x43 x45).f1) ((rd_T47 x43 x45).f2) ((rd_T47 x43 x45).f3)) else (none)) else (none)
def testamurlaw42_DevicesOnce.j9 : Nat → List (S40) → Int → Int → Int → Int → List (S47) → Int → Int → Int → Int → Int → Bool → Option (Bool)
 | 0, _, _, _, _, _, _, _, _, _, _, _, _ => none
 | k + 1, x0, x1, x2, x9, x11, x43, x44, x45, x443000, x443001, x443002, x443003 => if x443000 = x9 then (if x11 > 1 then (testamurlaw42_DevicesOnce.j10 k x0 x1 x2 x9 x43 x44 x45 true x443000 x443001 x443002 x443003) else (testamurlaw42_DevicesOnce.j10 k x0 x1 x2 x9 x43 x44 x45 (x443003 != (x11 == 0)) x443000 x443001 x443002 x443003)) else (testamurlaw42_DevicesOnce.j10 k x0 x1 x2 x9 x43 x44 x45 true x443000 x443001 x443002 x443003)
def testamurlaw42_DevicesOnce.j10 : Nat → List (S40) → Int → Int → Int → List (S47) → Int → Int → Bool → Int → Int → Int → Bool → Option (Bool)
 | 0, _, _, _, _, _, _, _, _, _, _, _, _ => none
 | k + 1, x0, x1, x2, x9, x43, x44, x45, x82, x443000, x443001, x443002, x443003 => if x82 = true then (some false) else (testamurlaw42_DevicesOnce.j11 k x0 x1 x2 x9 x43 x44 x45 x443000 x443001 x443002 x443003)
def testamurlaw42_DevicesOnce.j11 : Nat → List (S40) → Int → Int → Int → List (S47) → Int → Int → Int → Int → Int → Bool → Option (Bool)
 | 0, _, _, _, _, _, _, _, _, _, _, _ => none
 | k + 1, x0, x1, x2, x9, x43, x44, x45, x443000, x443001, x443002, x443003 => testamurlaw42_DevicesOnce.l2 k x0 x1 x2 x9 x43 x44 x45 x0 (x0.length : Int) 0 x443000 x443001 x443002 x443003 x9 x2 0 false
def testamurlaw42_DevicesOnce.l2 : Nat → List (S40) → Int → Int → Int → List (S47) → Int → Int → List (S40) → Int → Int → Int → Int → Int → Bool → Int → Int → Int → Bool → Option (Bool)
 | 0, _, _, _, _, _, _, _, _, _, _, _, _, _, _, _, _, _, _ => none
 | k + 1, x0, x1, x2, x9, x43, x44, x45, x86, x87, x88, x443000, x443001, x443002, x443003, x446000, x446001, x446002, x446003 => if x88 < x87 then (testamurlaw42_DevicesOnce.j13 k x0 x1 x2 x9 x43 x44 x45 x86 x87 x88 x443000 x443001 x443002 x443003 x446000 x446001 x446002 x446003) else (if (!(x446000 == x443000) || (!(x446001 == x443001) || (!(x446002 == x443002) || (!(x446003 == x443003))))) = true then (some false) else (testamurlaw42_DevicesOnce.l0 k x0 x1 x2 x43 x44 (wrap64 (x45 + 1))))
def testamurlaw42_DevicesOnce.j13 : Nat → List (S40) → Int → Int → Int → List (S47) → Int → Int → List (S40) → Int → Int → Int → Int → Int → Bool → Int → Int → Int → Bool → Option (Bool)
 | 0, _, _, _, _, _, _, _, _, _, _, _, _, _, _, _, _, _, _ => none
 | k + 1, x0, x1, x2, x9, x43, x44, x45, x86, x87, x88, x443000, x443001, x443002, x443003, x446000, x446001, x446002, x446003 => if 0 ≤ x88 then (if x88 < (x86.length : Int) then (if ((rd_T40 x86 x88).f3) = x9 then (if ((rd_T40 x86 x88).f5) = (wrap64 (x446002 + 1)) then (if ((rd_T40 x86 x88).f0) = x446001 then (testamurlaw42_DevicesOnce.j14 k x0 x1 x2 x9 x43 x44 x45 x86 x87 x88 x446003 x443000 x443001 x443002 x443003 x446000 x446001 x446002 x446003 ((rd_T40 x86 x88).f0) ((rd_T40 x86 x88).f1) ((rd_T40 x86 x88).f2) ((rd_T40 x86 x88).f3) ((rd_T40 x86 x88).f4) ((rd_T40 x86 x88).f5)) else (testamurlaw42_DevicesOnce.j14 k x0 x1 x2 x9 x43 x44 x45 x86 x87 x88 true x443000 x443001 x443002 x443003 x446000 x446001 x446002 x446003 ((rd_T40 x86 x88).f0) ((rd_T40 x86 x88).f1) ((rd_T40 x86 x88).f2) ((rd_T40 x86 x88).f3) ((rd_T40 x86 x88).f4) ((rd_T40 x86 x88).f5))) else (testamurlaw42_DevicesOnce.j14 k x0 x1 x2 x9 x43 x44 x45 x86 x87 x88 true x443000 x443001 x443002 x443003 x446000 x446001 x446002 x446003 ((rd_T40 x86 x88).f0) ((rd_T40 x86 x88).f1) ((rd_T40 x86 x88).f2) ((rd_T40 x86 x88).f3) ((rd_T40 x86 x88).f4) ((rd_T40 x86 x88).f5))) else (testamurlaw42_DevicesOnce.j14 k x0 x1 x2 x9 x43 x44 x45 x86 x87 x88 true x443000 x443001 x443002 x443003 x446000 x446001 x446002 x446003 ((rd_T40 x86 x88).f0) ((rd_T40 x86 x88).f1) ((rd_T40 x86 x88).f2) ((rd_T40 x86 x88).f3) ((rd_T40 x86 x88).f4) ((rd_T40 x86 x88).f5))) else (none)) else (none)
def testamurlaw42_DevicesOnce.j14 : Nat → List (S40) → Int → Int → Int → List (S47) → Int → Int → List (S40) → Int → Int → Bool → Int → Int → Int → Bool → Int → Int → Int → Bool → Int → Int → Int → Int → Int → Int → Option (Bool)
 | 0, _, _, _, _, _, _, _, _, _, _, _, _, _, _, _, _, _, _, _, _, _, _, _, _, _ => none
 | k + 1, x0, x1, x2, x9, x43, x44, x45, x86, x87, x88, x114, x443000, x443001, x443002, x443003, x446000, x446001, x446002, x446003, x450000, x450001, x450002, x450003, x450004, x450005 => if x114 = true then (testamurlaw42_DevicesOnce.l2 k x0 x1 x2 x9 x43 x44 x45 x86 x87 (wrap64 (x88 + 1)) x443000 x443001 x443002 x443003 x446000 x446001 x446002 x446003) else (if x450002 = 2 then (testamurlaw42_DevicesOnce.l2 k x0 x1 x2 x9 x43 x44 x45 x86 x87 (wrap64 (x88 + 1)) x443000 x443001 x443002 x443003 x446000 x446001 x450005 true) else (testamurlaw42_DevicesOnce.l2 k x0 x1 x2 x9 x43 x44 x45 x86 x87 (wrap64 (x88 + 1)) x443000 x443001 x443002 x443003 x446000 x450004 x450005 x446003))
def testamurlaw42_DevicesOnce.l1 : Nat → List (S40) → Int → Int → Int → Int → List (S47) → Int → Int → Int → Int → Int → Int → Bool → Option (Bool)
 | 0, _, _, _, _, _, _, _, _, _, _, _, _, _ => none
 | k + 1, x0, x1, x2, x9, x11, x43, x44, x45, x50, x443000, x443001, x443002, x443003 => if x50 < 4 then (testamurlaw42_DevicesOnce.j8 k x0 x1 x2 x9 x11 x43 x44 x45 x50 x443000 x443001 x443002 x443003) else (testamurlaw42_DevicesOnce.j9 k x0 x1 x2 x9 x11 x43 x44 x45 x443000 x443001 x443002 x443003)
def testamurlaw42_DevicesOnce.j8 : Nat → List (S40) → Int → Int → Int → Int → List (S47) → Int → Int → Int → Int → Int → Int → Bool → Option (Bool)
 | 0, _, _, _, _, _, _, _, _, _, _, _, _, _ => none
 | k + 1, x0, x1, x2, x9, x11, x43, x44, x45, x50, x443000, x443001, x443002, x443003 => (devices_May.f x0 x1 x2 x50 x9).bind fun bt443 => (if bt443.2 = 0 then (if bt443.1 = true then (testamurlaw42_DevicesOnce.l1 k x0 x1 x2 x9 (wrap64 (x11 + 1)) x43 x44 x45 (wrap64 (x50 + 1)) x443000 x443001 x443002 x443003) else (testamurlaw42_DevicesOnce.l1 k x0 x1 x2 x9 x11 x43 x44 x45 (wrap64 (x50 + 1)) x443000 x443001 x443002 x443003)) else (some false))
end
def testamurlaw42_DevicesOnce.f (k : Nat) (l0 : List (S40)) (a1 : Int) (a2 : Int) : Option (Bool) := (testamurlaw42_sane.f k).bind fun t433 => (if t433 = true then (testamurlaw42_DevicesOnce.j0 k l0 a1 a2) else (none))
theorem testamurlaw42_DevicesOnce.mono_l : ∀ k, (∀ y0 y1 y2, LeO (testamurlaw42_DevicesOnce.j0 k y0 y1 y2) (testamurlaw42_DevicesOnce.j0 (k + 1) y0 y1 y2)) ∧ (∀ y0 y1 y2 y3, LeO (testamurlaw42_DevicesOnce.j1 k y0 y1 y2 y3) (testamurlaw42_DevicesOnce.j1 (k + 1) y0 y1 y2 y3)) ∧ (∀ y0 y1 y2, LeO (testamurlaw42_DevicesOnce.j2 k y0 y1 y2) (testamurlaw42_DevicesOnce.j2 (k + 1) y0 y1 y2)) ∧ (∀ y0 y1 y2 y3, LeO (testamurlaw42_DevicesOnce.j3 k y0 y1 y2 y3) (testamurlaw42_DevicesOnce.j3 (k + 1) y0 y1 y2 y3)) ∧ (∀ y0 y1 y2 y3, LeO (testamurlaw42_DevicesOnce.j4 k y0 y1 y2 y3) (testamurlaw42_DevicesOnce.j4 (k + 1) y0 y1 y2 y3)) ∧ (∀ y0 y1 y2 y3 y4 y5, LeO (testamurlaw42_DevicesOnce.l0 k y0 y1 y2 y3 y4 y5) (testamurlaw42_DevicesOnce.l0 (k + 1) y0 y1 y2 y3 y4 y5)) ∧ (∀ y0 y1 y2 y3 y4 y5, LeO (testamurlaw42_DevicesOnce.j6 k y0 y1 y2 y3 y4 y5) (testamurlaw42_DevicesOnce.j6 (k + 1) y0 y1 y2 y3 y4 y5)) ∧ (∀ y0 y1 y2 y3 y4 y5 y6 y7 y8 y9 y10 y11, LeO (testamurlaw42_DevicesOnce.j9 k y0 y1 y2 y3 y4 y5 y6 y7 y8 y9 y10 y11) (testamurlaw42_DevicesOnce.j9 (k + 1) y0 y1 y2 y3 y4 y5 y6 y7 y8 y9 y10 y11)) ∧ (∀ y0 y1 y2 y3 y4 y5 y6 y7 y8 y9 y10 y11, LeO (testamurlaw42_DevicesOnce.j10 k y0 y1 y2 y3 y4 y5 y6 y7 y8 y9 y10 y11) (testamurlaw42_DevicesOnce.j10 (k + 1) y0 y1 y2 y3 y4 y5 y6 y7 y8 y9 y10 y11)) ∧ (∀ y0 y1 y2 y3 y4 y5 y6 y7 y8 y9 y10, LeO (testamurlaw42_DevicesOnce.j11 k y0 y1 y2 y3 y4 y5 y6 y7 y8 y9 y10) (testamurlaw42_DevicesOnce.j11 (k + 1) y0 y1 y2 y3 y4 y5 y6 y7 y8 y9 y10)) ∧ (∀ y0 y1 y2 y3 y4 y5 y6 y7 y8 y9 y10 y11 y12 y13 y14 y15 y16 y17, LeO (testamurlaw42_DevicesOnce.l2 k y0 y1 y2 y3 y4 y5 y6 y7 y8 y9 y10 y11 y12 y13 y14 y15 y16 y17) (testamurlaw42_DevicesOnce.l2 (k + 1) y0 y1 y2 y3 y4 y5 y6 y7 y8 y9 y10 y11 y12 y13 y14 y15 y16 y17)) ∧ (∀ y0 y1 y2 y3 y4 y5 y6 y7 y8 y9 y10 y11 y12 y13 y14 y15 y16 y17, LeO (testamurlaw42_DevicesOnce.j13 k y0 y1 y2 y3 y4 y5 y6 y7 y8 y9 y10 y11 y12 y13 y14 y15 y16 y17) (testamurlaw42_DevicesOnce.j13 (k + 1) y0 y1 y2 y3 y4 y5 y6 y7 y8 y9 y10 y11 y12 y13 y14 y15 y16 y17)) ∧ (∀ y0 y1 y2 y3 y4 y5 y6 y7 y8 y9 y10 y11 y12 y13 y14 y15 y16 y17 y18 y19 y20 y21 y22 y23 y24, LeO (testamurlaw42_DevicesOnce.j14 k y0 y1 y2 y3 y4 y5 y6 y7 y8 y9 y10 y11 y12 y13 y14 y15 y16 y17 y18 y19 y20 y21 y22 y23 y24) (testamurlaw42_DevicesOnce.j14 (k + 1) y0 y1 y2 y3 y4 y5 y6 y7 y8 y9 y10 y11 y12 y13 y14 y15 y16 y17 y18 y19 y20 y21 y22 y23 y24)) ∧ (∀ y0 y1 y2 y3 y4 y5 y6 y7 y8 y9 y10 y11 y12, LeO (testamurlaw42_DevicesOnce.l1 k y0 y1 y2 y3 y4 y5 y6 y7 y8 y9 y10 y11 y12) (testamurlaw42_DevicesOnce.l1 (k + 1) y0 y1 y2 y3 y4 y5 y6 y7 y8 y9 y10 y11 y12)) ∧ (∀ y0 y1 y2 y3 y4 y5 y6 y7 y8 y9 y10 y11 y12, LeO (testamurlaw42_DevicesOnce.j8 k y0 y1 y2 y3 y4 y5 y6 y7 y8 y9 y10 y11 y12) (testamurlaw42_DevicesOnce.j8 (k + 1) y0 y1 y2 y3 y4 y5 y6 y7 y8 y9 y10 y11 y12))
 | 0 => ⟨fun _ _ _ r h => by simp [testamurlaw42_DevicesOnce.j0] at h, fun _ _ _ _ r h => by simp [testamurlaw42_DevicesOnce.j1] at h, fun _ _ _ r h => by simp [testamurlaw42_DevicesOnce.j2] at h, fun _ _ _ _ r h => by simp [testamurlaw42_DevicesOnce.j3] at h, fun _ _ _ _ r h => by simp [testamurlaw42_DevicesOnce.j4] at h, fun _ _ _ _ _ _ r h => by simp [testamurlaw42_DevicesOnce.l0] at h, fun _ _ _ _ _ _ r h => by simp [testamurlaw42_DevicesOnce.j6] at h, fun _ _ _ _ _ _ _ _ _ _ _ _ r h => by simp [testamurlaw42_DevicesOnce.j9] at h, fun _ _ _ _ _ _ _ _ _ _ _ _ r h => by simp [testamurlaw42_DevicesOnce.j10] at h, fun _ _ _ _ _ _ _ _ _ _ _ r h => by simp [testamurlaw42_DevicesOnce.j11] at h, fun _ _ _ _ _ _ _ _ _ _ _ _ _ _ _ _ _ _ r h => by simp [testamurlaw42_DevicesOnce.l2] at h, fun _ _ _ _ _ _ _ _ _ _ _ _ _ _ _ _ _ _ r h => by simp [testamurlaw42_DevicesOnce.j13] at h, fun _ _ _ _ _ _ _ _ _ _ _ _ _ _ _ _ _ _ _ _ _ _ _ _ _ r h => by simp [testamurlaw42_DevicesOnce.j14] at h, fun _ _ _ _ _ _ _ _ _ _ _ _ _ r h => by simp [testamurlaw42_DevicesOnce.l1] at h, fun _ _ _ _ _ _ _ _ _ _ _ _ _ r h => by simp [testamurlaw42_DevicesOnce.j8] at h⟩
 | k + 1 => by
  obtain ⟨ih0, ih1, ih2, ih3, ih4, ih5, ih6, ih7, ih8, ih9, ih10, ih11, ih12, ih13, ih14⟩ := testamurlaw42_DevicesOnce.mono_l k
  refine ⟨?_, ?_, ?_, ?_, ?_, ?_, ?_, ?_, ?_, ?_, ?_, ?_, ?_, ?_, ?_⟩
  ·intro y0 y1 y2
   unfold testamurlaw42_DevicesOnce.j0
   repeat' first
   | (with_reducible exact ih0 _ _ _)
   | (with_reducible exact ih1 _ _ _ _)
   | (with_reducible exact ih2 _ _ _)
   | (with_reducible exact ih3 _ _ _ _)
   | (with_reducible exact ih4 _ _ _ _)
   | (with_reducible exact ih5 _ _ _ _ _ _)
   | (with_reducible exact ih6 _ _ _ _ _ _)
   | (with_reducible exact ih7 _ _ _ _ _ _ _ _ _ _ _ _)
   | (with_reducible exact ih8 _ _ _ _ _ _ _ _ _ _ _ _)
   | (with_reducible exact ih9 _ _ _ _ _ _ _ _ _ _ _)
   | (with_reducible exact ih10 _ _ _ _ _ _ _ _ _ _ _ _ _ _ _ _ _ _)
   | (with_reducible exact ih11 _ _ _ _ _ _ _ _ _ _ _ _ _ _ _ _ _ _)
   | (with_reducible exact ih12 _ _ _ _ _ _ _ _ _ _ _ _ _ _ _ _ _ _ _ _ _ _ _ _ _)
   | (with_reducible exact ih13 _ _ _ _ _ _ _ _ _ _ _ _ _)
   | (with_reducible exact ih14 _ _ _ _ _ _ _ _ _ _ _ _ _)
   | (with_reducible exact testamurlaw42_sane.mono _)
   | (with_reducible exact LeO.refl _)
   | (with_reducible exact LeO.none _)
   | (with_reducible refine LeO.ite ?_ ?_)
   | (with_reducible refine LeO.bind ?_ (fun _ => ?_))
   | exact ih0 _ _ _
   | exact ih1 _ _ _ _
   | exact ih2 _ _ _
   | exact ih3 _ _ _ _
   | exact ih4 _ _ _ _
   | exact ih5 _ _ _ _ _ _
   | exact ih6 _ _ _ _ _ _
   | exact ih7 _ _ _ _ _ _ _ _ _ _ _ _
   | exact ih8 _ _ _ _ _ _ _ _ _ _ _ _
   | exact ih9 _ _ _ _ _ _ _ _ _ _ _
   | exact ih10 _ _ _ _ _ _ _ _ _ _ _ _ _ _ _ _ _ _
   | exact ih11 _ _ _ _ _ _ _ _ _ _ _ _ _ _ _ _ _ _
   | exact ih12 _ _ _ _ _ _ _ _ _ _ _ _ _ _ _ _ _ _ _ _ _ _ _ _ _
   | exact ih13 _ _ _ _ _ _ _ _ _ _ _ _ _
   | exact ih14 _ _ _ _ _ _ _ _ _ _ _ _ _
   | exact testamurlaw42_sane.mono _
   | exact LeO.none _
   | refine LeO.ite ?_ ?_
   | refine LeO.bind ?_ (fun _ => ?_)
  ·intro y0 y1 y2 y3
   unfold testamurlaw42_DevicesOnce.j1
   repeat' first
   | (with_reducible exact ih0 _ _ _)
   | (with_reducible exact ih1 _ _ _ _)
   | (with_reducible exact ih2 _ _ _)
   | (with_reducible exact ih3 _ _ _ _)
   | (with_reducible exact ih4 _ _ _ _)
   | (with_reducible exact ih5 _ _ _ _ _ _)
   | (with_reducible exact ih6 _ _ _ _ _ _)
   | (with_reducible exact ih7 _ _ _ _ _ _ _ _ _ _ _ _)
   | (with_reducible exact ih8 _ _ _ _ _ _ _ _ _ _ _ _)
   | (with_reducible exact ih9 _ _ _ _ _ _ _ _ _ _ _)
   | (with_reducible exact ih10 _ _ _ _ _ _ _ _ _ _ _ _ _ _ _ _ _ _)
   | (with_reducible exact ih11 _ _ _ _ _ _ _ _ _ _ _ _ _ _ _ _ _ _)
   | (with_reducible exact ih12 _ _ _ _ _ _ _ _ _ _ _ _ _ _ _ _ _ _ _ _ _ _ _ _ _)
   | (with_reducible exact ih13 _ _ _ _ _ _ _ _ _ _ _ _ _)
   | (with_reducible exact ih14 _ _ _ _ _ _ _ _ _ _ _ _ _)
   | (with_reducible exact testamurlaw42_sane.mono _)
   | (with_reducible exact LeO.refl _)
   | (with_reducible exact LeO.none _)
   | (with_reducible refine LeO.ite ?_ ?_)
   | (with_reducible refine LeO.bind ?_ (fun _ => ?_))
   | exact ih0 _ _ _
   | exact ih1 _ _ _ _
   | exact ih2 _ _ _
   | exact ih3 _ _ _ _
   | exact ih4 _ _ _ _
   | exact ih5 _ _ _ _ _ _
   | exact ih6 _ _ _ _ _ _
   | exact ih7 _ _ _ _ _ _ _ _ _ _ _ _
   | exact ih8 _ _ _ _ _ _ _ _ _ _ _ _
   | exact ih9 _ _ _ _ _ _ _ _ _ _ _
   | exact ih10 _ _ _ _ _ _ _ _ _ _ _ _ _ _ _ _ _ _
   | exact ih11 _ _ _ _ _ _ _ _ _ _ _ _ _ _ _ _ _ _
   | exact ih12 _ _ _ _ _ _ _ _ _ _ _ _ _ _ _ _ _ _ _ _ _ _ _ _ _
   | exact ih13 _ _ _ _ _ _ _ _ _ _ _ _ _
   | exact ih14 _ _ _ _ _ _ _ _ _ _ _ _ _
   | exact testamurlaw42_sane.mono _
   | exact LeO.none _
   | refine LeO.ite ?_ ?_
   | refine LeO.bind ?_ (fun _ => ?_)
  ·intro y0 y1 y2
   unfold testamurlaw42_DevicesOnce.j2
   repeat' first
   | (with_reducible exact ih0 _ _ _)
   | (with_reducible exact ih1 _ _ _ _)
   | (with_reducible exact ih2 _ _ _)
   | (with_reducible exact ih3 _ _ _ _)
   | (with_reducible exact ih4 _ _ _ _)
   | (with_reducible exact ih5 _ _ _ _ _ _)
   | (with_reducible exact ih6 _ _ _ _ _ _)
   | (with_reducible exact ih7 _ _ _ _ _ _ _ _ _ _ _ _)
   | (with_reducible exact ih8 _ _ _ _ _ _ _ _ _ _ _ _)
   | (with_reducible exact ih9 _ _ _ _ _ _ _ _ _ _ _)
   | (with_reducible exact ih10 _ _ _ _ _ _ _ _ _ _ _ _ _ _ _ _ _ _)
   | (with_reducible exact ih11 _ _ _ _ _ _ _ _ _ _ _ _ _ _ _ _ _ _)
   | (with_reducible exact ih12 _ _ _ _ _ _ _ _ _ _ _ _ _ _ _ _ _ _ _ _ _ _ _ _ _)
   | (with_reducible exact ih13 _ _ _ _ _ _ _ _ _ _ _ _ _)
   | (with_reducible exact ih14 _ _ _ _ _ _ _ _ _ _ _ _ _)
   | (with_reducible exact testamurlaw42_sane.mono _)
   | (with_reducible exact LeO.refl _)
   | (with_reducible exact LeO.none _)
   | (with_reducible refine LeO.ite ?_ ?_)
   | (with_reducible refine LeO.bind ?_ (fun _ => ?_))
   | exact ih0 _ _ _
   | exact ih1 _ _ _ _
   | exact ih2 _ _ _
   | exact ih3 _ _ _ _
   | exact ih4 _ _ _ _
   | exact ih5 _ _ _ _ _ _
   | exact ih6 _ _ _ _ _ _
   | exact ih7 _ _ _ _ _ _ _ _ _ _ _ _
   | exact ih8 _ _ _ _ _ _ _ _ _ _ _ _
   | exact ih9 _ _ _ _ _ _ _ _ _ _ _
   | exact ih10 _ _ _ _ _ _ _ _ _ _ _ _ _ _ _ _ _ _
   | exact ih11 _ _ _ _ _ _ _ _ _ _ _ _ _ _ _ _ _ _
   | exact ih12 _ _ _ _ _ _ _ _ _ _ _ _ _ _ _ _ _ _ _ _ _ _ _ _ _
   | exact ih13 _ _ _ _ _ _ _ _ _ _ _ _ _
   | exact ih14 _ _ _ _ _ _ _ _ _ _ _ _ _
   | exact testamurlaw42_sane.mono _
   | exact LeO.none _
   | refine LeO.ite ?_ ?_
   | refine LeO.bind ?_ (fun _ => ?_)
  ·intro y0 y1 y2 y3
   unfold testamurlaw42_DevicesOnce.j3
   repeat' first
   | (with_reducible exact ih0 _ _ _)
   | (with_reducible exact ih1 _ _ _ _)
   | (with_reducible exact ih2 _ _ _)
   | (with_reducible exact ih3 _ _ _ _)
   | (with_reducible exact ih4 _ _ _ _)
   | (with_reducible exact ih5 _ _ _ _ _ _)
   | (with_reducible exact ih6 _ _ _ _ _ _)
   | (with_reducible exact ih7 _ _ _ _ _ _ _ _ _ _ _ _)
   | (with_reducible exact ih8 _ _ _ _ _ _ _ _ _ _ _ _)
   | (with_reducible exact ih9 _ _ _ _ _ _ _ _ _ _ _)
   | (with_reducible exact ih10 _ _ _ _ _ _ _ _ _ _ _ _ _ _ _ _ _ _)
   | (with_reducible exact ih11 _ _ _ _ _ _ _ _ _ _ _ _ _ _ _ _ _ _)
   | (with_reducible exact ih12 _ _ _ _ _ _ _ _ _ _ _ _ _ _ _ _ _ _ _ _ _ _ _ _ _)
   | (with_reducible exact ih13 _ _ _ _ _ _ _ _ _ _ _ _ _)
   | (with_reducible exact ih14 _ _ _ _ _ _ _ _ _ _ _ _ _)
   | (with_reducible exact testamurlaw42_sane.mono _)
   | (with_reducible exact LeO.refl _)
   | (with_reducible exact LeO.none _)
   | (with_reducible refine LeO.ite ?_ ?_)
   | (with_reducible refine LeO.bind ?_ (fun _ => ?_))
   | exact ih0 _ _ _
   | exact ih1 _ _ _ _
   | exact ih2 _ _ _
   | exact ih3 _ _ _ _
   | exact ih4 _ _ _ _
   | exact ih5 _ _ _ _ _ _
   | exact ih6 _ _ _ _ _ _
   | exact ih7 _ _ _ _ _ _ _ _ _ _ _ _
   | exact ih8 _ _ _ _ _ _ _ _ _ _ _ _
   | exact ih9 _ _ _ _ _ _ _ _ _ _ _
   | exact ih10 _ _ _ _ _ _ _ _ _ _ _ _ _ _ _ _ _ _
   | exact ih11 _ _ _ _ _ _ _ _ _ _ _ _ _ _ _ _ _ _
   | exact ih12 _ _ _ _ _ _ _ _ _ _ _ _ _ _ _ _ _ _ _ _ _ _ _ _ _
   | exact ih13 _ _ _ _ _ _ _ _ _ _ _ _ _
   | exact ih14 _ _ _ _ _ _ _ _ _ _ _ _ _
   | exact testamurlaw42_sane.mono _
   | exact LeO.none _
   | refine LeO.ite ?_ ?_
   | refine LeO.bind ?_ (fun _ => ?_)
  ·intro y0 y1 y2 y3
   unfold testamurlaw42_DevicesOnce.j4
   repeat' first
   | (with_reducible exact ih0 _ _ _)
   | (with_reducible exact ih1 _ _ _ _)
   | (with_reducible exact ih2 _ _ _)
   | (with_reducible exact ih3 _ _ _ _)
   | (with_reducible exact ih4 _ _ _ _)
   | (with_reducible exact ih5 _ _ _ _ _ _)
   | (with_reducible exact ih6 _ _ _ _ _ _)
   | (with_reducible exact ih7 _ _ _ _ _ _ _ _ _ _ _ _)
   | (with_reducible exact ih8 _ _ _ _ _ _ _ _ _ _ _ _)
   | (with_reducible exact ih9 _ _ _ _ _ _ _ _ _ _ _)
   | (with_reducible exact ih10 _ _ _ _ _ _ _ _ _ _ _ _ _ _ _ _ _ _)
   | (with_reducible exact ih11 _ _ _ _ _ _ _ _ _ _ _ _ _ _ _ _ _ _)
   | (with_reducible exact ih12 _ _ _ _ _ _ _ _ _ _ _ _ _ _ _ _ _ _ _ _ _ _ _ _ _)
   | (with_reducible exact ih13 _ _ _ _ _ _ _ _ _ _ _ _ _)
   | (with_reducible exact ih14 _ _ _ _ _ _ _ _ _ _ _ _ _)
   | (with_reducible exact testamurlaw42_sane.mono _)
   | (with_reducible exact LeO.refl _)
   | (with_reducible exact LeO.none _)
   | (with_reducible refine LeO.ite ?_ ?_)
   | (with_reducible refine LeO.bind ?_ (fun _ => ?_))
   | exact ih0 _ _ _
   | exact ih1 _ _ _ _
   | exact ih2 _ _ _
   | exact ih3 _ _ _ _
   | exact ih4 _ _ _ _
   | exact ih5 _ _ _ _ _ _
   | exact ih6 _ _ _ _ _ _
   | exact ih7 _ _ _ _ _ _ _ _ _ _ _ _
   | exact ih8 _ _ _ _ _ _ _ _ _ _ _ _
   | exact ih9 _ _ _ _ _ _ _ _ _ _ _
   | exact ih10 _ _ _ _ _ _ _ _ _ _ _ _ _ _ _ _ _ _
   | exact ih11 _ _ _ _ _ _ _ _ _ _ _ _ _ _ _ _ _ _
   | exact ih12 _ _ _ _ _ _ _ _ _ _ _ _ _ _ _ _ _ _ _ _ _ _ _ _ _
   | exact ih13 _ _ _ _ _ _ _ _ _ _ _ _ _
   | exact ih14 _ _ _ _ _ _ _ _ _ _ _ _ _
   | exact testamurlaw42_sane.mono _
   | exact LeO.none _
   | refine LeO.ite ?_ ?_
   | refine LeO.bind ?_ (fun _ => ?_)
  ·intro y0 y1 y2 y3 y4 y5
   unfold testamurlaw42_DevicesOnce.l0
   repeat' first
   | (with_reducible exact ih0 _ _ _)
   | (with_reducible exact ih1 _ _ _ _)
   | (with_reducible exact ih2 _ _ _)
   | (with_reducible exact ih3 _ _ _ _)
   | (with_reducible exact ih4 _ _ _ _)
   | (with_reducible exact ih5 _ _ _ _ _ _)
   | (with_reducible exact ih6 _ _ _ _ _ _)
   | (with_reducible exact ih7 _ _ _ _ _ _ _ _ _ _ _ _)
   | (with_reducible exact ih8 _ _ _ _ _ _ _ _ _ _ _ _)
   | (with_reducible exact ih9 _ _ _ _ _ _ _ _ _ _ _)
   | (with_reducible exact ih10 _ _ _ _ _ _ _ _ _ _ _ _ _ _ _ _ _ _)
   | (with_reducible exact ih11 _ _ _ _ _ _ _ _ _ _ _ _ _ _ _ _ _ _)
   | (with_reducible exact ih12 _ _ _ _ _ _ _ _ _ _ _ _ _ _ _ _ _ _ _ _ _ _ _ _ _)
   | (with_reducible exact ih13 _ _ _ _ _ _ _ _ _ _ _ _ _)
   | (with_reducible exact ih14 _ _ _ _ _ _ _ _ _ _ _ _ _)
   | (with_reducible exact testamurlaw42_sane.mono _)
   | (with_reducible exact LeO.refl _)
   | (with_reducible exact LeO.none _)
   | (with_reducible refine LeO.ite ?_ ?_)
   | (with_reducible refine LeO.bind ?_ (fun _ => ?_))
   | exact ih0 _ _ _
   | exact ih1 _ _ _ _
   | exact ih2 _ _ _
   | exact ih3 _ _ _ _
   | exact ih4 _ _ _ _
   | exact ih5 _ _ _ _ _ _
   | exact ih6 _ _ _ _ _ _
   | exact ih7 _ _ _ _ _ _ _ _ _ _ _ _
   | exact ih8 _ _ _ _ _ _ _ _ _ _ _ _
   | exact ih9 _ _ _ _ _ _ _ _ _ _ _
   | exact ih10 _ _ _ _ _ _ _ _ _ _ _ _ _ _ _ _ _ _
   | exact ih11 _ _ _ _ _ _ _ _ _ _ _ _ _ _ _ _ _ _
   | exact ih12 _ _ _ _ _ _ _ _ _ _ _ _ _ _ _ _ _ _ _ _ _ _ _ _ _
   | exact ih13 _ _ _ _ _ _ _ _ _ _ _ _ _
   | exact ih14 _ _ _ _ _ _ _ _ _ _ _ _ _
   | exact testamurlaw42_sane.mono _
   | exact LeO.none _
   | refine LeO.ite ?_ ?_
   | refine LeO.bind ?_ (fun _ => ?_)
  ·intro y0 y1 y2 y3 y4 y5
   unfold testamurlaw42_DevicesOnce.j6
   repeat' first
   | (with_reducible exact ih0 _ _ _)
   | (with_reducible exact ih1 _ _ _ _)
   | (with_reducible exact ih2 _ _ _)
   | (with_reducible exact ih3 _ _ _ _)
   | (with_reducible exact ih4 _ _ _ _)
   | (with_reducible exact ih5 _ _ _ _ _ _)
   | (with_reducible exact ih6 _ _ _ _ _ _)
   | (with_reducible exact ih7 _ _ _ _ _ _ _ _ _ _ _ _)
   | (with_reducible exact ih8 _ _ _ _ _ _ _ _ _ _ _ _)
   | (with_reducible exact ih9 _ _ _ _ _ _ _ _ _ _ _)
   | (with_reducible exact ih10 _ _ _ _ _ _ _ _ _ _ _ _ _ _ _ _ _ _)
   | (with_reducible exact ih11 _ _ _ _ _ _ _ _ _ _ _ _ _ _ _ _ _ _)
   | (with_reducible exact ih12 _ _ _ _ _ _ _ _ _ _ _ _ _ _ _ _ _ _ _ _ _ _ _ _ _)
   | (with_reducible exact ih13 _ _ _ _ _ _ _ _ _ _ _ _ _)
   | (with_reducible exact ih14 _ _ _ _ _ _ _ _ _ _ _ _ _)
   | (with_reducible exact testamurlaw42_sane.mono _)
   | (with_reducible exact LeO.refl _)
   | (with_reducible exact LeO.none _)
   | (with_reducible refine LeO.ite ?_ ?_)
   | (with_reducible refine LeO.bind ?_ (fun _ => ?_))
   | exact ih0 _ _ _
   | exact ih1 _ _ _ _
   | exact ih2 _ _ _
   | exact ih3 _ _ _ _
   | exact ih4 _ _ _ _
   | exact ih5 _ _ _ _ _ _
   | exact ih6 _ _ _ _ _ _
   | exact ih7 _ _ _ _ _ _ _ _ _ _ _ _
   | exact ih8 _ _ _ _ _ _ _ _ _ _ _ _
   | exact ih9 _ _ _ _ _ _ _ _ _ _ _
   | exact ih10 _ _ _ _ _ _ _ _ _ _ _ _ _ _ _ _ _ _
   | exact ih11 _ _ _ _ _ _ _ _ _ _ _ _ _ _ _ _ _ _
   | exact ih12 _ _ _ _ _ _ _ _ _ _ _ _ _ _ _ _ _ _ _ _ _ _ _ _ _
   | exact ih13 _ _ _ _ _ _ _ _ _ _ _ _ _
   | exact ih14 _ _ _ _ _ _ _ _ _ _ _ _ _
   | exact testamurlaw42_sane.mono _
   | exact LeO.none _
   | refine LeO.ite ?_ ?_
   | refine LeO.bind ?_ (fun _ => ?_)
  ·intro y0 y1 y2 y3 y4 y5 y6 y7 y8 y9 y10 y11
   unfold testamurlaw42_DevicesOnce.j9
   repeat' first
   | (with_reducible exact ih0 _ _ _)
   | (with_reducible exact ih1 _ _ _ _)
   | (with_reducible exact ih2 _ _ _)
   | (with_reducible exact ih3 _ _ _ _)
   | (with_reducible exact ih4 _ _ _ _)
   | (with_reducible exact ih5 _ _ _ _ _ _)
   | (with_reducible exact ih6 _ _ _ _ _ _)
   | (with_reducible exact ih7 _ _ _ _ _ _ _ _ _ _ _ _)
   | (with_reducible exact ih8 _ _ _ _ _ _ _ _ _ _ _ _)
   | (with_reducible exact ih9 _ _ _ _ _ _ _ _ _ _ _)
   | (with_reducible exact ih10 _ _ _ _ _ _ _ _ _ _ _ _ _ _ _ _ _ _)
   | (with_reducible exact ih11 _ _ _ _ _ _ _ _ _ _ _ _ _ _ _ _ _ _)
   | (with_reducible exact ih12 _ _ _ _ _ _ _ _ _ _ _ _ _ _ _ _ _ _ _ _ _ _ _ _ _)
   | (with_reducible exact ih13 _ _ _ _ _ _ _ _ _ _ _ _ _)
   | (with_reducible exact ih14 _ _ _ _ _ _ _ _ _ _ _ _ _)
   | (with_reducible exact testamurlaw42_sane.mono _)
   | (with_reducible exact LeO.refl _)
   | (with_reducible exact LeO.none _)
   | (with_reducible refine LeO.ite ?_ ?_)
   | (with_reducible refine LeO.bind ?_ (fun _ => ?_))
   | exact ih0 _ _ _
   | exact ih1 _ _ _ _
   | exact ih2 _ _ _
   | exact ih3 _ _ _ _
   | exact ih4 _ _ _ _
   | exact ih5 _ _ _ _ _ _
   | exact ih6 _ _ _ _ _ _
   | exact ih7 _ _ _ _ _ _ _ _ _ _ _ _
   | exact ih8 _ _ _ _ _ _ _ _ _ _ _ _
   | exact ih9 _ _ _ _ _ _ _ _ _ _ _
   | exact ih10 _ _ _ _ _ _ _ _ _ _ _ _ _ _ _ _ _ _
   | exact ih11 _ _ _ _ _ _ _ _ _ _ _ _ _ _ _ _ _ _
   | exact ih12 _ _ _ _ _ _ _ _ _ _ _ _ _ _ _ _ _ _ _ _ _ _ _ _ _
   | exact ih13 _ _ _ _ _ _ _ _ _ _ _ _ _
   | exact ih14 _ _ _ _ _ _ _ _ _ _ _ _ _
   | exact testamurlaw42_sane.mono _
   | exact LeO.none _
   | refine LeO.ite ?_ ?_
   | refine LeO.bind ?_ (fun _ => ?_)
  ·intro y0 y1 y2 y3 y4 y5 y6 y7 y8 y9 y10 y11
   unfold testamurlaw42_DevicesOnce.j10
   repeat' first
   | (with_reducible exact ih0 _ _ _)
   | (with_reducible exact ih1 _ _ _ _)
   | (with_reducible exact ih2 _ _ _)
   | (with_reducible exact ih3 _ _ _ _)
   | (with_reducible exact ih4 _ _ _ _)
   | (with_reducible exact ih5 _ _ _ _ _ _)
   | (with_reducible exact ih6 _ _ _ _ _ _)
   | (with_reducible exact ih7 _ _ _ _ _ _ _ _ _ _ _ _)
   | (with_reducible exact ih8 _ _ _ _ _ _ _ _ _ _ _ _)
   | (with_reducible exact ih9 _ _ _ _ _ _ _ _ _ _ _)
   | (with_reducible exact ih10 _ _ _ _ _ _ _ _ _ _ _ _ _ _ _ _ _ _)
   | (with_reducible exact ih11 _ _ _ _ _ _ _ _ _ _ _ _ _ _ _ _ _ _)
   | (with_reducible exact ih12 _ _ _ _ _ _ _ _ _ _ _ _ _ _ _ _ _ _ _ _ _ _ _ _ _)
   | (with_reducible exact ih13 _ _ _ _ _ _ _ _ _ _ _ _ _)
   | (with_reducible exact ih14 _ _ _ _ _ _ _ _ _ _ _ _ _)
   | (with_reducible exact testamurlaw42_sane.mono _)
   | (with_reducible exact LeO.refl _)
   | (with_reducible exact LeO.none _)
   | (with_reducible refine LeO.ite ?_ ?_)
   | (with_reducible refine LeO.bind ?_ (fun _ => ?_))
   | exact ih0 _ _ _
   | exact ih1 _ _ _ _
   | exact ih2 _ _ _
   | exact ih3 _ _ _ _
   | exact ih4 _ _ _ _
   | exact ih5 _ _ _ _ _ _
   | exact ih6 _ _ _ _ _ _
   | exact ih7 _ _ _ _ _ _ _ _ _ _ _ _
   | exact ih8 _ _ _ _ _ _ _ _ _ _ _ _
   | exact ih9 _ _ _ _ _ _ _ _ _ _ _
   | exact ih10 _ _ _ _ _ _ _ _ _ _ _ _ _ _ _ _ _ _
   | exact ih11 _ _ _ _ _ _ _ _ _ _ _ _ _ _ _ _ _ _
   | exact ih12 _ _ _ _ _ _ _ _ _ _ _ _ _ _ _ _ _ _ _ _ _ _ _ _ _
   | exact ih13 _ _ _ _ _ _ _ _ _ _ _ _ _
   | exact ih14 _ _ _ _ _ _ _ _ _ _ _ _ _
   | exact testamurlaw42_sane.mono _
   | exact LeO.none _
   | refine LeO.ite ?_ ?_
   | refine LeO.bind ?_ (fun _ => ?_)
  ·intro y0 y1 y2 y3 y4 y5 y6 y7 y8 y9 y10
   unfold testamurlaw42_DevicesOnce.j11
   repeat' first
   | (with_reducible exact ih0 _ _ _)
   | (with_reducible exact ih1 _ _ _ _)
   | (with_reducible exact ih2 _ _ _)
   | (with_reducible exact ih3 _ _ _ _)
   | (with_reducible exact ih4 _ _ _ _)
   | (with_reducible exact ih5 _ _ _ _ _ _)
   | (with_reducible exact ih6 _ _ _ _ _ _)
   | (with_reducible exact ih7 _ _ _ _ _ _ _ _ _ _ _ _)
   | (with_reducible exact ih8 _ _ _ _ _ _ _ _ _ _ _ _)
   | (with_reducible exact ih9 _ _ _ _ _ _ _ _ _ _ _)
   | (with_reducible exact ih10 _ _ _ _ _ _ _ _ _ _ _ _ _ _ _ _ _ _)
   | (with_reducible exact ih11 _ _ _ _ _ _ _ _ _ _ _ _ _ _ _ _ _ _)
   | (with_reducible exact ih12 _ _ _ _ _ _ _ _ _ _ _ _ _ _ _ _ _ _ _ _ _ _ _ _ _)
   | (with_reducible exact ih13 _ _ _ _ _ _ _ _ _ _ _ _ _)
   | (with_reducible exact ih14 _ _ _ _ _ _ _ _ _ _ _ _ _)
   | (with_reducible exact testamurlaw42_sane.mono _)
   | (with_reducible exact LeO.refl _)
   | (with_reducible exact LeO.none _)
   | (with_reducible refine LeO.ite ?_ ?_)
   | (with_reducible refine LeO.bind ?_ (fun _ => ?_))
   | exact ih0 _ _ _
   | exact ih1 _ _ _ _
   | exact ih2 _ _ _
   | exact ih3 _ _ _ _
   | exact ih4 _ _ _ _
   | exact ih5 _ _ _ _ _ _
   | exact ih6 _ _ _ _ _ _
   | exact ih7 _ _ _ _ _ _ _ _ _ _ _ _
   | exact ih8 _ _ _ _ _ _ _ _ _ _ _ _
   | exact ih9 _ _ _ _ _ _ _ _ _ _ _
   | exact ih10 _ _ _ _ _ _ _ _ _ _ _ _ _ _ _ _ _ _
   | exact ih11 _ _ _ _ _ _ _ _ _ _ _ _ _ _ _ _ _ _
   | exact ih12 _ _ _ _ _ _ _ _ _ _ _ _ _ _ _ _ _ _ _ _ _ _ _ _ _
   | exact ih13 _ _ _ _ _ _ _ _ _ _ _ _ _
   | exact ih14 _ _ _ _ _ _ _ _ _ _ _ _ _
   | exact testamurlaw42_sane.mono _
   | exact LeO.none _
   | refine LeO.ite ?_ ?_
   | refine LeO.bind ?_ (fun _ => ?_)
  ·intro y0 y1 y2 y3 y4 y5 y6 y7 y8 y9 y10 y11 y12 y13 y14 y15 y16 y17
   unfold testamurlaw42_DevicesOnce.l2
   repeat' first
   | (with_reducible exact ih0 _ _ _)
   | (with_reducible exact ih1 _ _ _ _)
   | (with_reducible exact ih2 _ _ _)
   | (with_reducible exact ih3 _ _ _ _)
   | (with_reducible exact ih4 _ _ _ _)
   | (with_reducible exact ih5 _ _ _ _ _ _)
   | (with_reducible exact ih6 _ _ _ _ _ _)
   | (with_reducible exact ih7 _ _ _ _ _ _ _ _ _ _ _ _)
   | (with_reducible exact ih8 _ _ _ _ _ _ _ _ _ _ _ _)
   | (with_reducible exact ih9 _ _ _ _ _ _ _ _ _ _ _)
   | (with_reducible exact ih10 _ _ _ _ _ _ _ _ _ _ _ _ _ _ _ _ _ _)
   | (with_reducible exact ih11 _ _ _ _ _ _ _ _ _ _ _ _ _ _ _ _ _ _)
   | (with_reducible exact ih12 _ _ _ _ _ _ _ _ _ _ _ _ _ _ _ _ _ _ _ _ _ _ _ _ _)
   | (with_reducible exact ih13 _ _ _ _ _ _ _ _ _ _ _ _ _)
   | (with_reducible exact ih14 _ _ _ _ _ _ _ _ _ _ _ _ _)
   | (with_reducible exact testamurlaw42_sane.mono _)
   | (with_reducible exact LeO.refl _)
   | (with_reducible exact LeO.none _)
   | (with_reducible refine LeO.ite ?_ ?_)
   | (with_reducible refine LeO.bind ?_ (fun _ => ?_))
   | exact ih0 _ _ _
   | exact ih1 _ _ _ _
   | exact ih2 _ _ _
   | exact ih3 _ _ _ _
   | exact ih4 _ _ _ _
   | exact ih5 _ _ _ _ _ _
   | exact ih6 _ _ _ _ _ _
   | exact ih7 _ _ _ _ _ _ _ _ _ _ _ _
   | exact ih8 _ _ _ _ _ _ _ _ _ _ _ _
   | exact ih9 _ _ _ _ _ _ _ _ _ _ _
   | exact ih10 _ _ _ _ _ _ _ _ _ _ _ _ _ _ _ _ _ _
   | exact ih11 _ _ _ _ _ _ _ _ _ _ _ _ _ _ _ _ _ _
   | exact ih12 _ _ _ _ _ _ _ _ _ _ _ _ _ _ _ _ _ _ _ _ _ _ _ _ _
   | exact ih13 _ _ _ _ _ _ _ _ _ _ _ _ _
   | exact ih14 _ _ _ _ _ _ _ _ _ _ _ _ _
   | exact testamurlaw42_sane.mono _
   | exact LeO.none _
   | refine LeO.ite ?_ ?_
   | refine LeO.bind ?_ (fun _ => ?_)
  ·intro y0 y1 y2 y3 y4 y5 y6 y7 y8 y9 y10 y11 y12 y13 y14 y15 y16 y17
   unfold testamurlaw42_DevicesOnce.j13
   repeat' first
   | (with_reducible exact ih0 _ _ _)
   | (with_reducible exact ih1 _ _ _ _)
   | (with_reducible exact ih2 _ _ _)
   | (with_reducible exact ih3 _ _ _ _)
   | (with_reducible exact ih4 _ _ _ _)
   | (with_reducible exact ih5 _ _ _ _ _ _)
   | (with_reducible exact ih6 _ _ _ _ _ _)
   | (with_reducible exact ih7 _ _ _ _ _ _ _ _ _ _ _ _)
   | (with_reducible exact ih8 _ _ _ _ _ _ _ _ _ _ _ _)
   | (with_reducible exact ih9 _ _ _ _ _ _ _ _ _ _ _)
   | (with_reducible exact ih10 _ _ _ _ _ _ _ _ _ _ _ _ _ _ _ _ _ _)
   | (with_reducible exact ih11 _ _ _ _ _ _ _ _ _ _ _ _ _ _ _ _ _ _)
   | (with_reducible exact ih12 _ _ _ _ _ _ _ _ _ _ _ _ _ _ _ _ _ _ _ _ _ _ _ _ _)
   | (with_reducible exact ih13 _ _ _ _ _ _ _ _ _ _ _ _ _)
   | (with_reducible exact ih14 _ _ _ _ _ _ _ _ _ _ _ _ _)
   | (with_reducible exact testamurlaw42_sane.mono _)
   | (with_reducible exact LeO.refl _)
   | (with_reducible exact LeO.none _)
   | (with_reducible refine LeO.ite ?_ ?_)
   | (with_reducible refine LeO.bind ?_ (fun _ => ?_))
   | exact ih0 _ _ _
   | exact ih1 _ _ _ _
   | exact ih2 _ _ _
   | exact ih3 _ _ _ _
   | exact ih4 _ _ _ _
   | exact ih5 _ _ _ _ _ _
   | exact ih6 _ _ _ _ _ _
   | exact ih7 _ _ _ _ _ _ _ _ _ _ _ _
   | exact ih8 _ _ _ _ _ _ _ _ _ _ _ _
   | exact ih9 _ _ _ _ _ _ _ _ _ _ _
   | exact ih10 _ _ _ _ _ _ _ _ _ _ _ _ _ _ _ _ _ _
   | exact ih11 _ _ _ _ _ _ _ _ _ _ _ _ _ _ _ _ _ _
   | exact ih12 _ _ _ _ _ _ _ _ _ _ _ _ _ _ _ _ _ _ _ _ _ _ _ _ _
   | exact ih13 _ _ _ _ _ _ _ _ _ _ _ _ _
   | exact ih14 _ _ _ _ _ _ _ _ _ _ _ _ _
   | exact testamurlaw42_sane.mono _
   | exact LeO.none _
   | refine LeO.ite ?_ ?_
   | refine LeO.bind ?_ (fun _ => ?_)
  ·intro y0 y1 y2 y3 y4 y5 y6 y7 y8 y9 y10 y11 y12 y13 y14 y15 y16 y17 y18 y19 y20 y21 y22 y23 y24
   unfold testamurlaw42_DevicesOnce.j14
   repeat' first
   | (with_reducible exact ih0 _ _ _)
   | (with_reducible exact ih1 _ _ _ _)
   | (with_reducible exact ih2 _ _ _)
   | (with_reducible exact ih3 _ _ _ _)
   | (with_reducible exact ih4 _ _ _ _)
   | (with_reducible exact ih5 _ _ _ _ _ _)
   | (with_reducible exact ih6 _ _ _ _ _ _)
   | (with_reducible exact ih7 _ _ _ _ _ _ _ _ _ _ _ _)
   | (with_reducible exact ih8 _ _ _ _ _ _ _ _ _ _ _ _)
   | (with_reducible exact ih9 _ _ _ _ _ _ _ _ _ _ _)
   | (with_reducible exact ih10 _ _ _ _ _ _ _ _ _ _ _ _ _ _ _ _ _ _)
   | (with_reducible exact ih11 _ _ _ _ _ _ _ _ _ _ _ _ _ _ _ _ _ _)
   | (with_reducible exact ih12 _ _ _ _ _ _ _ _ _ _ _ _ _ _ _ _ _ _ _ _ _ _ _ _ _)
   | (with_reducible exact ih13 _ _ _ _ _ _ _ _ _ _ _ _ _)
   | (with_reducible exact ih14 _ _ _ _ _ _ _ _ _ _ _ _ _)
   | (with_reducible exact testamurlaw42_sane.mono _)
   | (with_reducible exact LeO.refl _)
   | (with_reducible exact LeO.none _)
   | (with_reducible refine LeO.ite ?_ ?_)
   | (with_reducible refine LeO.bind ?_ (fun _ => ?_))
   | exact ih0 _ _ _
   | exact ih1 _ _ _ _
   | exact ih2 _ _ _
   | exact ih3 _ _ _ _
   | exact ih4 _ _ _ _
   | exact ih5 _ _ _ _ _ _
   | exact ih6 _ _ _ _ _ _
   | exact ih7 _ _ _ _ _ _ _ _ _ _ _ _
   | exact ih8 _ _ _ _ _ _ _ _ _ _ _ _
   | exact ih9 _ _ _ _ _ _ _ _ _ _ _
   | exact ih10 _ _ _ _ _ _ _ _ _ _ _ _ _ _ _ _ _ _
   | exact ih11 _ _ _ _ _ _ _ _ _ _ _ _ _ _ _ _ _ _
   | exact ih12 _ _ _ _ _ _ _ _ _ _ _ _ _ _ _ _ _ _ _ _ _ _ _ _ _
   | exact ih13 _ _ _ _ _ _ _ _ _ _ _ _ _
   | exact ih14 _ _ _ _ _ _ _ _ _ _ _ _ _
   | exact testamurlaw42_sane.mono _
   | exact LeO.none _
   | refine LeO.ite ?_ ?_
   | refine LeO.bind ?_ (fun _ => ?_)
  ·intro y0 y1 y2 y3 y4 y5 y6 y7 y8 y9 y10 y11 y12
   unfold testamurlaw42_DevicesOnce.l1
   repeat' first
   | (with_reducible exact ih0 _ _ _)
   | (with_reducible exact ih1 _ _ _ _)
   | (with_reducible exact ih2 _ _ _)
   | (with_reducible exact ih3 _ _ _ _)
   | (with_reducible exact ih4 _ _ _ _)
   | (with_reducible exact ih5 _ _ _ _ _ _)
   | (with_reducible exact ih6 _ _ _ _ _ _)
   | (with_reducible exact ih7 _ _ _ _ _ _ _ _ _ _ _ _)
   | (with_reducible exact ih8 _ _ _ _ _ _ _ _ _ _ _ _)
   | (with_reducible exact ih9 _ _ _ _ _ _ _ _ _ _ _)
   | (with_reducible exact ih10 _ _ _ _ _ _ _ _ _ _ _ _ _ _ _ _ _ _)
   | (with_reducible exact ih11 _ _ _ _ _ _ _ _ _ _ _ _ _ _ _ _ _ _)
   | (with_reducible exact ih12 _ _ _ _ _ _ _ _ _ _ _ _ _ _ _ _ _ _ _ _ _ _ _ _ _)
   | (with_reducible exact ih13 _ _ _ _ _ _ _ _ _ _ _ _ _)
   | (with_reducible exact ih14 _ _ _ _ _ _ _ _ _ _ _ _ _)
   | (with_reducible exact testamurlaw42_sane.mono _)
   | (with_reducible exact LeO.refl _)
   | (with_reducible exact LeO.none _)
   | (with_reducible refine LeO.ite ?_ ?_)
   | (with_reducible refine LeO.bind ?_ (fun _ => ?_))
   | exact ih0 _ _ _
   | exact ih1 _ _ _ _
   | exact ih2 _ _ _
   | exact ih3 _ _ _ _
   | exact ih4 _ _ _ _
   | exact ih5 _ _ _ _ _ _
   | exact ih6 _ _ _ _ _ _
   | exact ih7 _ _ _ _ _ _ _ _ _ _ _ _
   | exact ih8 _ _ _ _ _ _ _ _ _ _ _ _
   | exact ih9 _ _ _ _ _ _ _ _ _ _ _
   | exact ih10 _ _ _ _ _ _ _ _ _ _ _ _ _ _ _ _ _ _
   | exact ih11 _ _ _ _ _ _ _ _ _ _ _ _ _ _ _ _ _ _
   | exact ih12 _ _ _ _ _ _ _ _ _ _ _ _ _ _ _ _ _ _ _ _ _ _ _ _ _
   | exact ih13 _ _ _ _ _ _ _ _ _ _ _ _ _
   | exact ih14 _ _ _ _ _ _ _ _ _ _ _ _ _
   | exact testamurlaw42_sane.mono _
   | exact LeO.none _
   | refine LeO.ite ?_ ?_
   | refine LeO.bind ?_ (fun _ => ?_)
  ·intro y0 y1 y2 y3 y4 y5 y6 y7 y8 y9 y10 y11 y12
   unfold testamurlaw42_DevicesOnce.j8
   repeat' first
   | (with_reducible exact ih0 _ _ _)
   | (with_reducible exact ih1 _ _ _ _)
   | (with_reducible exact ih2 _ _ _)
   | (with_reducible exact ih3 _ _ _ _)
   | (with_reducible exact ih4 _ _ _ _)
   | (with_reducible exact ih5 _ _ _ _ _ _)
   | (with_reducible exact ih6 _ _ _ _ _ _)
   | (with_reducible exact ih7 _ _ _ _ _ _ _ _ _ _ _ _)
   | (with_reducible exact ih8 _ _ _ _ _ _ _ _ _ _ _ _)
   | (with_reducible exact ih9 _ _ _ _ _ _ _ _ _ _ _)
   | (with_reducible exact ih10 _ _ _ _ _ _ _ _ _ _ _ _ _ _ _ _ _ _)
   | (with_reducible exact ih11 _ _ _ _ _ _ _ _ _ _ _ _ _ _ _ _ _ _)
   | (with_reducible exact ih12 _ _ _ _ _ _ _ _ _ _ _ _ _ _ _ _ _ _ _ _ _ _ _ _ _)
   | (with_reducible exact ih13 _ _ _ _ _ _ _ _ _ _ _ _ _)
   | (with_reducible exact ih14 _ _ _ _ _ _ _ _ _ _ _ _ _)
   | (with_reducible exact testamurlaw42_sane.mono _)
   | (with_reducible exact LeO.refl _)
   | (with_reducible exact LeO.none _)
   | (with_reducible refine LeO.ite ?_ ?_)
   | (with_reducible refine LeO.bind ?_ (fun _ => ?_))
   | exact ih0 _ _ _
   | exact ih1 _ _ _ _
   | exact ih2 _ _ _
   | exact ih3 _ _ _ _
   | exact ih4 _ _ _ _
   | exact ih5 _ _ _ _ _ _
   | exact ih6 _ _ _ _ _ _
   | exact ih7 _ _ _ _ _ _ _ _ _ _ _ _
   | exact ih8 _ _ _ _ _ _ _ _ _ _ _ _
   | exact ih9 _ _ _ _ _ _ _ _ _ _ _
   | exact ih10 _ _ _ _ _ _ _ _ _ _ _ _ _ _ _ _ _ _
   | exact ih11 _ _ _ _ _ _ _ _ _ _ _ _ _ _ _ _ _ _
   | exact ih12 _ _ _ _ _ _ _ _ _ _ _ _ _ _ _ _ _ _ _ _ _ _ _ _ _
   | exact ih13 _ _ _ _ _ _ _ _ _ _ _ _ _
   | exact ih14 _ _ _ _ _ _ _ _ _ _ _ _ _
   | exact testamurlaw42_sane.mono _
   | exact LeO.none _
   | refine LeO.ite ?_ ?_
   | refine LeO.bind ?_ (fun _ => ?_)
theorem testamurlaw42_DevicesOnce.mono : ∀ a0 a1 a2 k, LeO (testamurlaw42_DevicesOnce.f k a0 a1 a2) (testamurlaw42_DevicesOnce.f (k + 1) a0 a1 a2) := by
 intro a0 a1 a2 k
 obtain ⟨ih0, ih1, ih2, ih3, ih4, ih5, ih6, ih7, ih8, ih9, ih10, ih11, ih12, ih13, ih14⟩ := testamurlaw42_DevicesOnce.mono_l k
 unfold testamurlaw42_DevicesOnce.f
 repeat' first
   | (with_reducible exact ih0 _ _ _)
   | (with_reducible exact ih1 _ _ _ _)
   | (with_reducible exact ih2 _ _ _)
   | (with_reducible exact ih3 _ _ _ _)
   | (with_reducible exact ih4 _ _ _ _)
   | (with_reducible exact ih5 _ _ _ _ _ _)
   | (with_reducible exact ih6 _ _ _ _ _ _)
   | (with_reducible exact ih7 _ _ _ _ _ _ _ _ _ _ _ _)
   | (with_reducible exact ih8 _ _ _ _ _ _ _ _ _ _ _ _)
   | (with_reducible exact ih9 _ _ _ _ _ _ _ _ _ _ _)
   | (with_reducible exact ih10 _ _ _ _ _ _ _ _ _ _ _ _ _ _ _ _ _ _)
   | (with_reducible exact ih11 _ _ _ _ _ _ _ _ _ _ _ _ _ _ _ _ _ _)
   | (with_reducible exact ih12 _ _ _ _ _ _ _ _ _ _ _ _ _ _ _ _ _ _ _ _ _ _ _ _ _)
   | (with_reducible exact ih13 _ _ _ _ _ _ _ _ _ _ _ _ _)
   | (with_reducible exact ih14 _ _ _ _ _ _ _ _ _ _ _ _ _)
   | (with_reducible exact testamurlaw42_sane.mono _)
   | (with_reducible exact LeO.refl _)
   | (with_reducible exact LeO.none _)
   | (with_reducible refine LeO.ite ?_ ?_)
   | (with_reducible refine LeO.bind ?_ (fun _ => ?_))
   | exact ih0 _ _ _
   | exact ih1 _ _ _ _
   | exact ih2 _ _ _
   | exact ih3 _ _ _ _
   | exact ih4 _ _ _ _
   | exact ih5 _ _ _ _ _ _
   | exact ih6 _ _ _ _ _ _
   | exact ih7 _ _ _ _ _ _ _ _ _ _ _ _
   | exact ih8 _ _ _ _ _ _ _ _ _ _ _ _
   | exact ih9 _ _ _ _ _ _ _ _ _ _ _
   | exact ih10 _ _ _ _ _ _ _ _ _ _ _ _ _ _ _ _ _ _
   | exact ih11 _ _ _ _ _ _ _ _ _ _ _ _ _ _ _ _ _ _
   | exact ih12 _ _ _ _ _ _ _ _ _ _ _ _ _ _ _ _ _ _ _ _ _ _ _ _ _
   | exact ih13 _ _ _ _ _ _ _ _ _ _ _ _ _
   | exact ih14 _ _ _ _ _ _ _ _ _ _ _ _ _
   | exact testamurlaw42_sane.mono _
   | exact LeO.none _
   | refine LeO.ite ?_ ?_
   | refine LeO.bind ?_ (fun _ => ?_)
set_option maxHeartbeats 8000000 in
set_option maxRecDepth 100000 in
theorem testamurlaw42_DevicesOnce.calls (k : Nat) (A0 : Option Addr) (c0 : Nat) (l0 : List (S40)) (a1 : Int) (a2 : Int) (r : Bool) (w : World) (hr0 : Kd.C k40 w A0 l0.length l0) (hc0 : l0.length ≤ c0) (h : testamurlaw42_DevicesOnce.f k l0 a1 a2 = some r) :
  Calls Try.prog 8 #[.slice A0 l0.length c0, .int .i64 a1, .int .i64 a2] w fun e w' => e = .returned (.bool r) ∧ Below w.heap.size w w' := by
 have hu47 := Try.underlying47
 have hu40 := Try.underlying40
 have HR0 := Aside0.mk hr0
 have HC0 := Aside0.mk hc0
 clear hr0 hc0
 have HB := Aside0.mk (Below.refl w.heap.size w)
 have H : ((testamurlaw42_sane.f k).bind fun t433 => (if t433 = true then (testamurlaw42_DevicesOnce.j0 k l0 a1 a2) else (none))) = some r := h
 clear h
 replace H := Option.bind_eq_some_iff.mp H
 obtain ⟨t433, A40, H⟩ := H
 replace H : (if t433 = true then (testamurlaw42_DevicesOnce.j0 k l0 a1 a2) else (none)) = some r := H
 have A4 := Aside0.mk A40
 clear A40
 have HC5 := Aside0.mk H
 clear H
 go_enter Try.func8, Try.ntmps8
 try simp only [List.append]
 go_upto_if 19 with (first | ((with_reducible refine gate_callee (f := 25) rfl ?_); refine goesL_ (some 18) rfl rfl Try.func25 (by kernel_rfl) rfl #[] rfl (by (try simp only [List.map_toArray, List.map_cons, List.map_nil]); first | done | rfl | (simp only [List.length_drop, List.length_take]; rfl)) ?_; (with_reducible refine (testamurlaw42_sane.calls k  t433 _ A4.out).mono ?_); rintro e w6 ⟨rfl, hb⟩; refine ⟨_, rfl, ?_⟩; have n0_ := Aside0.mk (below_step (by repeat (first | (with_reducible first | exact HB.out | apply below_alloc | apply pw_below_drewN | apply below_drew1) | exact HB.out)) hb); clear HB; have HB := n0_; clear n0_; (try clear hb); (try clear hb2); (try clear hk); (try clear hi)))
 (try simp only [Act.put, List.setIfInBounds_toArray, List.set_cons_zero, List.set_cons_succ])
 go_cut [] (fun wc => ∃ (kq : Nat), Aside0 (testamurlaw42_DevicesOnce.j0 kq l0 a1 a2 = some r) ∧ Aside0 (kq ≤ k) ∧ Aside0 (Below w.heap.size w wc))
 case first =>
  have H := HC5.out
  clear HC5
  by_cases c7 : t433 = true
  ·subst c7
   have H1 : (testamurlaw42_DevicesOnce.j0 k l0 a1 a2) = some r := by rw [if_pos rfl] at H; exact H
   clear H
   have H := H1
   clear H1
   have H' := Aside0.mk H
   clear H
   go_wp2
   go_meet
   case rel => exact ⟨_, H', ⟨by first | omega | exact Nat.le_refl _⟩, ⟨by repeat (first | (with_reducible first | exact HB.out | apply below_alloc | apply pw_below_drewN | apply below_drew1) | exact HB.out)⟩⟩
  ·replace c7 := Bool.eq_false_iff.mpr c7
   subst c7
   have H1 : (none) = some r := by rw [if_neg (show ¬ (false = true) by decide)] at H; exact H
   clear H
   have H := H1
   clear H1
   exact absurd H (by simp)
 case rest =>
  clear HC5
  try clear c2
  try clear p2
  try clear c7
  obtain ⟨kq, HA, HJ4, HB⟩ := hcut
  cases kq with
  | zero => exact absurd HA.out (by simp [testamurlaw42_DevicesOnce.j0])
  | succ kj4 =>
   have H := HA.out
   clear HA
   simp only [testamurlaw42_DevicesOnce.j0] at H
   have HC8 := Aside0.mk H
   clear H
   go_upto_region 3 with (fail)
   go_cut [26] (fun v26 wc => ∃ (kq : Nat) (x26_7 : Bool), v26 = .bool x26_7 ∧ Aside0 (testamurlaw42_DevicesOnce.j1 kq l0 a1 a2 x26_7 = some r) ∧ Aside0 (kq ≤ kj4) ∧ Aside0 (Below w.heap.size w wc))
   case first =>
    have H := HC8.out
    clear HC8
    replace H := Option.bind_eq_some_iff.mp H
    obtain ⟨t434, A90, H⟩ := H
    replace H : (if t434 = true then (testamurlaw42_DevicesOnce.j1 kj4 l0 a1 a2 (decide (a1 > 50))) else (testamurlaw42_DevicesOnce.j1 kj4 l0 a1 a2 true)) = some r := H
    have A9 := Aside0.mk A90
    clear A90
    by_cases c10 : t434 = true
    ·subst c10
     have H1 : (testamurlaw42_DevicesOnce.j1 kj4 l0 a1 a2 (decide (a1 > 50))) = some r := by rw [if_pos rfl] at H; exact H
     clear H
     have H := H1
     clear H1
     have H' := Aside0.mk H
     clear H
     go_wp2_with ((with_reducible refine gate_callee (f := 26) rfl ?_); refine Aside0.out (p := _) ?_)
     refine ⟨?_⟩
     refine goesL_ (some 21) rfl rfl Try.func26 (by kernel_rfl) rfl #[.slice A0 l0.length c0] rfl (by (try simp only [List.map_toArray, List.map_cons, List.map_nil]); first | done | rfl | (simp only [List.length_drop, List.length_take]; rfl)) ?_
     (with_reducible refine (testamurref42_Few.calls _ _ l0 true _ ?side1 ?side2 A9.out).mono ?_)
     (case side1 => repeat (first | exact (Kd.C_below HR0.out HB.out) | (with_reducible refine Kd.C_alloc ?_ _) | (with_reducible refine Kd.C_drewN ?_ _) | (with_reducible refine Kd.C_drew ?_)))
     (case side2 => exact HC0.out)
     rintro e w' ⟨rfl, ⟨nd, rfl⟩⟩
     refine ⟨_, rfl, ?_⟩
     go_wp2
     go_meet
     case rel => exact ⟨_, (decide (a1 > 50)), (by first | rfl | (simp; done) | (simp [*]; done)), H', ⟨by have := HJ4.out; first | omega | exact Nat.le_refl _⟩, ⟨by repeat (first | (with_reducible first | exact HB.out | apply below_alloc | apply pw_below_drewN | apply below_drew1) | exact HB.out)⟩⟩
    ·replace c10 := Bool.eq_false_iff.mpr c10
     subst c10
     have H1 : (testamurlaw42_DevicesOnce.j1 kj4 l0 a1 a2 true) = some r := by rw [if_neg (show ¬ (false = true) by decide)] at H; exact H
     clear H
     have H := H1
     clear H1
     have H' := Aside0.mk H
     clear H
     go_wp2_with ((with_reducible refine gate_callee (f := 26) rfl ?_); refine Aside0.out (p := _) ?_)
     refine ⟨?_⟩
     refine goesL_ (some 21) rfl rfl Try.func26 (by kernel_rfl) rfl #[.slice A0 l0.length c0] rfl (by (try simp only [List.map_toArray, List.map_cons, List.map_nil]); first | done | rfl | (simp only [List.length_drop, List.length_take]; rfl)) ?_
     (with_reducible refine (testamurref42_Few.calls _ _ l0 false _ ?side1 ?side2 A9.out).mono ?_)
     (case side1 => repeat (first | exact (Kd.C_below HR0.out HB.out) | (with_reducible refine Kd.C_alloc ?_ _) | (with_reducible refine Kd.C_drewN ?_ _) | (with_reducible refine Kd.C_drew ?_)))
     (case side2 => exact HC0.out)
     rintro e w' ⟨rfl, ⟨nd, rfl⟩⟩
     refine ⟨_, rfl, ?_⟩
     go_wp2
     go_meet
     case rel => exact ⟨_, (true), (by first | rfl | (simp; done) | (simp [*]; done)), H', ⟨by have := HJ4.out; first | omega | exact Nat.le_refl _⟩, ⟨by repeat (first | (with_reducible first | exact HB.out | apply below_alloc | apply pw_below_drewN | apply below_drew1) | exact HB.out)⟩⟩
   case rest =>
    clear HC8
    try clear c1
    try clear c2
    try clear p2
    try clear c7
    try clear c8
    try clear c10
    try clear p2
    obtain ⟨kq, x26_7, rfl, HA, HJ7, HB⟩ := hcut
    cases kq with
    | zero => exact absurd HA.out (by simp [testamurlaw42_DevicesOnce.j1])
    | succ kj7 =>
     have H := HA.out
     clear HA
     simp only [testamurlaw42_DevicesOnce.j1] at H
     have HC11 := Aside0.mk H
     clear H
     go_upto_if 26 with (fail)
     go_cut [] (fun wc => ∃ (kq : Nat), Aside0 (testamurlaw42_DevicesOnce.j2 kq l0 a1 a2 = some r) ∧ Aside0 (kq ≤ kj7) ∧ Aside0 (Below w.heap.size w wc))
     case first =>
      have H := HC11.out
      clear HC11
      by_cases c12 : x26_7 = true
      ·subst c12
       have H1 : (some true) = some r := by rw [if_pos rfl] at H; exact H
       clear H
       have H := H1
       clear H1
       obtain rfl := Option.some.inj H
       go_wp2
       go_ret
       exact ⟨by first | rfl | (simp [errW_none, errW_some] <;> rfl) | (simp [*, errW_none, errW_some] <;> rfl), by repeat (first | (with_reducible first | exact HB.out | apply below_alloc | apply pw_below_drewN | apply below_drew1) | exact HB.out)⟩
      ·replace c12 := Bool.eq_false_iff.mpr c12
       subst c12
       have H1 : (testamurlaw42_DevicesOnce.j2 kj7 l0 a1 a2) = some r := by rw [if_neg (show ¬ (false = true) by decide)] at H; exact H
       clear H
       have H := H1
       clear H1
       have H' := Aside0.mk H
       clear H
       go_wp2
       go_meet
       case rel => exact ⟨_, H', ⟨by have := HJ4.out; have := HJ7.out; first | omega | exact Nat.le_refl _⟩, ⟨by repeat (first | (with_reducible first | exact HB.out | apply below_alloc | apply pw_below_drewN | apply below_drew1) | exact HB.out)⟩⟩
     case rest =>
      clear HC11
      try clear c1
      try clear c2
      try clear p2
      try clear c7
      try clear c8
      try clear c10
      try clear c12
      try clear p2
      obtain ⟨kq, HA, HJ10, HB⟩ := hcut
      cases kq with
      | zero => exact absurd HA.out (by simp [testamurlaw42_DevicesOnce.j2])
      | succ kj10 =>
       have H := HA.out
       clear HA
       simp only [testamurlaw42_DevicesOnce.j2] at H
       replace H := Option.bind_eq_some_iff.mp H
       obtain ⟨⟨t435, t436⟩, A130, H⟩ := H
       replace H : (if t436 = 0 then (testamurlaw42_DevicesOnce.j3 kj10 l0 a1 a2 t435) else (some ((t435.length : Int) == 0))) = some r := H
       have A13 := Aside0.mk A130
       clear A130
       have HC14 := Aside0.mk H
       clear H
       go_upto_if 35 with (first | ((with_reducible refine gate_callee (f := 24) rfl ?_); refine goesL_ (some 31) rfl rfl Try.func24 (by kernel_rfl) rfl #[.slice A0 l0.length c0, .int .i64 a1, .int .i64 a2] rfl (by (try simp only [List.map_toArray, List.map_cons, List.map_nil]); first | done | rfl | (simp only [List.length_drop, List.length_take]; rfl)) ?_; (with_reducible refine (devices_State.calls _ _ l0 a1 a2 t435 t436 _ ?side1 ?side2 A13.out).mono ?_); (case side1 => repeat (first | exact (Kd.C_below HR0.out HB.out) | (with_reducible refine Kd.C_alloc ?_ _) | (with_reducible refine Kd.C_drewN ?_ _) | (with_reducible refine Kd.C_drew ?_))); (case side2 => exact HC0.out); rintro e w15 ⟨v437, rfl, ho0, hb⟩; refine ⟨_, rfl, ?_⟩; have n0_ := Aside0.mk (Kd.R_lower ho0 (below_size (by repeat (first | (with_reducible first | exact HB.out | apply below_alloc | apply pw_below_drewN | apply below_drew1) | exact HB.out)))); have n1_ := Aside0.mk (below_step (by repeat (first | (with_reducible first | exact HB.out | apply below_alloc | apply pw_below_drewN | apply below_drew1) | exact HB.out)) hb); clear HB; have HO438 := n0_; have HB := n1_; clear n0_ n1_; (try clear hb); (try clear hb2); (try clear hk); (try clear hi); (try clear ho0)))
       (try simp only [Act.put, List.setIfInBounds_toArray, List.set_cons_zero, List.set_cons_succ])
       go_cut [] (fun wc => ∃ (kq : Nat), Aside0 (testamurlaw42_DevicesOnce.j3 kq l0 a1 a2 t435 = some r) ∧ Aside0 (kq ≤ kj10) ∧ Aside0 (Kd.R k47 47 wc w.heap.size (fun _ => True) v437 t435) ∧ Aside0 (Below w.heap.size w wc))
       case first =>
        have H := HC14.out
        clear HC14
        by_cases c16 : t436 = 0
        ·rw [if_pos c16] at H
         have c16b0 : (t436 == 0) = true := beq_iff_eq.mpr c16
         have c16b1 : (t436 != 0) = false := bne_eq_false_iff_eq.mpr c16
         clear c16
         (first | rw [c16b0] | (simp only [i64_w, i32_w]; rw [c16b0]) | skip)
         have H' := Aside0.mk H
         clear H
         go_wp2
         go_meet
         case rel => exact ⟨_, H', ⟨by have := HJ4.out; have := HJ7.out; have := HJ10.out; first | omega | exact Nat.le_refl _⟩, ⟨by (with_reducible repeat (first | apply Kd.R_alloc | apply Kd.R_drewN | apply Kd.R_drew)); exact HO438.out⟩, ⟨by repeat (first | (with_reducible first | exact HB.out | apply below_alloc | apply pw_below_drewN | apply below_drew1) | exact HB.out)⟩⟩
        ·rw [if_neg c16] at H
         have c16b0 : (t436 == 0) = false := beq_eq_false_iff_ne.mpr c16
         have c16b1 : (t436 != 0) = true := bne_iff_ne.mpr c16
         (first | rw [c16b0] | (simp only [i64_w, i32_w]; rw [c16b0]) | skip)
         obtain rfl := Option.some.inj H
         obtain ⟨Ao17, co17, eo17⟩ := Kd.R_slice HO438.out
         subst eo17
         go_wp2
         go_ret
         exact ⟨by first | rfl | (simp [errW_none, errW_some] <;> rfl) | (simp [*, errW_none, errW_some] <;> rfl), by repeat (first | (with_reducible first | exact HB.out | apply below_alloc | apply pw_below_drewN | apply below_drew1) | exact HB.out)⟩
       case rest =>
        clear HC14
        try clear c1
        try clear c2
        try clear p2
        try clear c7
        try clear c8
        try clear c10
        try clear c12
        try clear c16
        try clear c16b0
        try clear c16b1
        try clear p2
        obtain ⟨kq, HA, HJ13, HO_7, HB⟩ := hcut
        cases kq with
        | zero => exact absurd HA.out (by simp [testamurlaw42_DevicesOnce.j3])
        | succ kj13 =>
         have H := HA.out
         clear HA
         simp only [testamurlaw42_DevicesOnce.j3] at H
         have HC18 := Aside0.mk H
         clear H
         obtain ⟨Ao19, co19, eo19⟩ := Kd.R_slice HO_7.out
         subst eo19
         go_upto_if 42 with (fail)
         go_cut [] (fun wc => ∃ (kq : Nat), Aside0 (testamurlaw42_DevicesOnce.j4 kq l0 a1 a2 t435 = some r) ∧ Aside0 (kq ≤ kj13) ∧ Aside0 (Kd.R k47 47 wc w.heap.size (fun _ => True) (.slice Ao19 t435.length co19) t435) ∧ Aside0 (Below w.heap.size w wc))
         case first =>
          have H := HC18.out
          clear HC18
          by_cases c20 : (t435.length : Int) = a1
          ·rw [if_pos c20] at H
           have c20b0 : ((t435.length : Int) == a1) = true := beq_iff_eq.mpr c20
           have c20b1 : ((t435.length : Int) != a1) = false := bne_eq_false_iff_eq.mpr c20
           clear c20
           (first | rw [c20b0] | (simp only [i64_w, i32_w]; rw [c20b0]) | skip)
           have H' := Aside0.mk H
           clear H
           go_wp2
           go_meet
           case rel => exact ⟨_, H', ⟨by have := HJ4.out; have := HJ7.out; have := HJ10.out; have := HJ13.out; first | omega | exact Nat.le_refl _⟩, ⟨by (with_reducible repeat (first | apply Kd.R_alloc | apply Kd.R_drewN | apply Kd.R_drew)); exact HO_7.out⟩, ⟨by repeat (first | (with_reducible first | exact HB.out | apply below_alloc | apply pw_below_drewN | apply below_drew1) | exact HB.out)⟩⟩
          ·rw [if_neg c20] at H
           have c20b0 : ((t435.length : Int) == a1) = false := beq_eq_false_iff_ne.mpr c20
           have c20b1 : ((t435.length : Int) != a1) = true := bne_iff_ne.mpr c20
           (first | rw [c20b0] | (simp only [i64_w, i32_w]; rw [c20b0]) | skip)
           obtain rfl := Option.some.inj H
           go_wp2
           go_ret
           exact ⟨by first | rfl | (simp [errW_none, errW_some] <;> rfl) | (simp [*, errW_none, errW_some] <;> rfl), by repeat (first | (with_reducible first | exact HB.out | apply below_alloc | apply pw_below_drewN | apply below_drew1) | exact HB.out)⟩
         case rest =>
          clear HC18
          try clear c1
          try clear c2
          try clear p2
          try clear c7
          try clear c8
          try clear c10
          try clear c12
          try clear c16
          try clear c16b0
          try clear c16b1
          try clear c20
          try clear c20b0
          try clear c20b1
          try clear p2
          obtain ⟨kq, HA, HJ17, HO_7, HB⟩ := hcut
          cases kq with
          | zero => exact absurd HA.out (by simp [testamurlaw42_DevicesOnce.j4])
          | succ kj17 =>
           have H := HA.out
           clear HA
           simp only [testamurlaw42_DevicesOnce.j4] at H
           have H' := Aside0.mk H
           clear H
           go_wp2
           go_loopg [45] kj17 (fun kq v45 w' => ∃ (x45_6 : Int), v45 = .int .i64 x45_6 ∧ Aside0 (testamurlaw42_DevicesOnce.l0 kq l0 a1 a2 t435 (t435.length : Int) x45_6 = some r) ∧ Aside0 (kq ≤ kj17) ∧ Aside0 (Kd.R k47 47 w' w.heap.size (fun _ => True) (.slice Ao19 t435.length co19) t435) ∧ Aside0 (Below w.heap.size w w'))
           case atStart => exact ⟨(0), (by first | rfl | (simp; done) | (simp [*]; done)), H', ⟨Nat.le_refl _⟩, ⟨by (with_reducible repeat (first | apply Kd.R_alloc | apply Kd.R_drewN | apply Kd.R_drew)); exact HO_7.out⟩, ⟨by repeat (first | (with_reducible first | exact HB.out | apply below_alloc | apply pw_below_drewN | apply below_drew1) | exact HB.out)⟩⟩
           case round =>
            clear H'
            try clear c1
            try clear c2
            try clear p2
            try clear c7
            try clear c8
            try clear c10
            try clear c12
            try clear c16
            try clear c16b0
            try clear c16b1
            try clear c20
            try clear c20b0
            try clear c20b1
            try clear p2
            obtain ⟨x45_6, rfl, HA, HK6, HO_43, HB⟩ := hrel
            cases gk with
            | zero => exact absurd HA.out (by simp [testamurlaw42_DevicesOnce.l0])
            | succ k6 =>
             have H := HA.out
             clear HA
             simp only [testamurlaw42_DevicesOnce.l0] at H
             have HC21 := Aside0.mk H
             clear H
             go_upto_if 46 with (fail)
             go_cut [] (fun wc => ∃ (kq : Nat), Aside0 (testamurlaw42_DevicesOnce.j6 kq l0 a1 a2 t435 (t435.length : Int) x45_6 = some r) ∧ Aside0 (kq ≤ k6) ∧ Aside0 (Kd.R k47 47 wc w.heap.size (fun _ => True) (.slice Ao19 t435.length co19) t435) ∧ Aside0 (Below w.heap.size w wc))
             case first =>
              have H := HC21.out
              clear HC21
              by_cases c22 : x45_6 < (t435.length : Int)
              ·rw [if_pos c22] at H
               have c22b0 : decide (x45_6 < (t435.length : Int)) = true := decide_eq_true c22
               clear c22
               (first | rw [c22b0] | (simp only [i64_w, i32_w]; rw [c22b0]) | skip)
               have H' := Aside0.mk H
               clear H
               go_wp2
               go_meet
               case rel => exact ⟨_, H', ⟨by have := HJ4.out; have := HJ7.out; have := HJ10.out; have := HJ13.out; have := HJ17.out; have := HK6.out; first | omega | exact Nat.le_refl _⟩, ⟨by (with_reducible repeat (first | apply Kd.R_alloc | apply Kd.R_drewN | apply Kd.R_drew)); exact HO_43.out⟩, ⟨by repeat (first | (with_reducible first | exact HB.out | apply below_alloc | apply pw_below_drewN | apply below_drew1) | exact HB.out)⟩⟩
              ·rw [if_neg c22] at H
               have c22b0 : decide (x45_6 < (t435.length : Int)) = false := decide_eq_false c22
               clear c22
               (first | rw [c22b0] | (simp only [i64_w, i32_w]; rw [c22b0]) | skip)
               obtain rfl := Option.some.inj H
               go_wp2
               go_ret
               exact ⟨by first | rfl | (simp [errW_none, errW_some] <;> rfl) | (simp [*, errW_none, errW_some] <;> rfl), by repeat (first | (with_reducible first | exact HB.out | apply below_alloc | apply pw_below_drewN | apply below_drew1) | exact HB.out)⟩
             case rest =>
              clear HC21
              try clear c1
              try clear c2
              try clear p2
              try clear c7
              try clear c8
              try clear c10
              try clear c12
              try clear c16
              try clear c16b0
              try clear c16b1
              try clear c20
              try clear c20b0
              try clear c20b1
              try clear c22
              try clear c22b0
              try clear p2
              obtain ⟨kq, HA, HJ20, HO_43, HB⟩ := hcut
              cases kq with
              | zero => exact absurd HA.out (by simp [testamurlaw42_DevicesOnce.j6])
              | succ kj20 =>
               have H := HA.out
               clear HA
               simp only [testamurlaw42_DevicesOnce.j6] at H
               by_cases c23 : 0 ≤ x45_6
               ·rw [if_pos c23] at H
                have c23b0 : decide (0 ≤ x45_6) = true := decide_eq_true c23
                clear c23
                by_cases c24 : x45_6 < (t435.length : Int)
                ·rw [if_pos c24] at H
                 have c24b0 : decide (x45_6 < (t435.length : Int)) = true := decide_eq_true c24
                 clear c24
                 have HC25 := Aside0.mk H
                 clear H
                 have p441 : 0 ≤ (x45_6 : Int) := of_decide_eq_true (by first | (with_reducible assumption) | assumption)
                 have q441 : x45_6 < (t435.length : Int) := of_decide_eq_true (by first | (with_reducible assumption) | assumption)
                 obtain ⟨ad441, e441, hx441_0, hx441_1, hx441_2, hx441_3⟩ := at_T47 (Kd.R_reads' HO_43.out).2.2 x45_6 p441 q441
                 cases e441
                 replace p441 := eq_true p441
                 replace q441 := eq_true q441
                 go_upto_block 2 with (first | ((with_reducible refine gate_dst (N := 10) rfl ?_); refine box_event ?hg (N := 10) ?hd (cs := #[.int .i64 0, .int .i64 0, .int .i64 0, .bool false]) (t := 47) ?hr ?_; (case hd => rfl); (case hg => rfl); (case hr => first | (go_simp; done) | (go_simp; rfl)); intro gb442 hg w26 hbox hb; have n0_ := Aside0.mk (Kd.R_below (Kd.R_elderB (by (with_reducible repeat (first | apply Kd.R_alloc | apply Kd.R_drewN | apply Kd.R_drew)); exact HO_43.out) gb442 (Nat.le_of_eq hg.symm)) hb); have n1_ := Aside0.mk (below_step (by repeat (first | (with_reducible first | exact HB.out | apply below_alloc | apply pw_below_drewN | apply below_drew1) | exact HB.out)) hb); have n2_ := Aside0.mk (hbox); have n3_ := Aside0.mk ((by rw [hg]; exact (below_size (by repeat (first | (with_reducible first | exact HB.out | apply below_alloc | apply pw_below_drewN | apply below_drew1) | exact HB.out))) : w.heap.size ≤ gb442)); have n4_ := Aside0.mk ((by rw [hg]; exact (below_size (by repeat (first | (with_reducible first | exact HB.out | apply below_alloc | apply pw_below_drewN | apply below_drew1) | exact HB.out))) : w.heap.size ≤ gb442)); clear HO_43; clear HB; have HO_43 := n0_; have HB := n1_; have BK442 := n2_; have GW442 := n3_; have GE442 := n4_; clear n0_ n1_ n2_ n3_ n4_; clear hb hbox hg; have hcz27_0 : w26.cell? ⟨gb442, 0, none⟩ = some (.int .i64 0) := (blk_cell BK442.out 0).trans rfl; have hcz27_1 : w26.cell? ⟨gb442, 1, none⟩ = some (.int .i64 0) := (blk_cell BK442.out 1).trans rfl; have hcz27_2 : w26.cell? ⟨gb442, 2, none⟩ = some (.int .i64 0) := (blk_cell BK442.out 2).trans rfl; have hcz27_3 : w26.cell? ⟨gb442, 3, none⟩ = some (.bool false) := (blk_cell BK442.out 3).trans rfl; have hfz27_0 := blk_frozen BK442.out 0; have hfz27_1 := blk_frozen BK442.out 1; have hfz27_2 := blk_frozen BK442.out 2; have hfz27_3 := blk_frozen BK442.out 3))
                 (try simp only [Act.put, List.setIfInBounds_toArray, List.set_cons_zero, List.set_cons_succ])
                 go_cut [11] (fun v11 wc => ∃ (kq : Nat) (x11_24 : Int), v11 = .int .i64 x11_24 ∧ Aside0 (testamurlaw42_DevicesOnce.j9 kq l0 a1 a2 x45_6 x11_24 t435 (t435.length : Int) x45_6 ((rd_T47 t435 x45_6).f0) ((rd_T47 t435 x45_6).f1) ((rd_T47 t435 x45_6).f2) ((rd_T47 t435 x45_6).f3) = some r) ∧ Aside0 (kq ≤ kj20) ∧ Aside0 (Kd.R k47 47 wc w.heap.size (fun k_ => k_ ≠ gb442) (.slice (some ad441) t435.length co19) t435) ∧ Aside0 (wc.heap[gb442]? = some (.cells #[.int .i64 ((rd_T47 t435 x45_6).f0), .int .i64 ((rd_T47 t435 x45_6).f1), .int .i64 ((rd_T47 t435 x45_6).f2), .bool ((rd_T47 t435 x45_6).f3)] 47 (0, 0))) ∧ Aside0 (Below w.heap.size w wc))
                 case first =>
                  have H := HC25.out
                  clear HC25
                  have H' := Aside0.mk H
                  clear H
                  go_wp2
                  go_loopg [11, 50] kj20 (fun kq v11 v50 w' => ∃ (x11_8 : Int) (x50_8 : Int), v11 = .int .i64 x11_8 ∧ v50 = .int .i64 x50_8 ∧ Aside0 (testamurlaw42_DevicesOnce.l1 kq l0 a1 a2 x45_6 x11_8 t435 (t435.length : Int) x45_6 x50_8 ((rd_T47 t435 x45_6).f0) ((rd_T47 t435 x45_6).f1) ((rd_T47 t435 x45_6).f2) ((rd_T47 t435 x45_6).f3) = some r) ∧ Aside0 (kq ≤ kj20) ∧ Aside0 (Kd.R k47 47 w' w.heap.size (fun k_ => k_ ≠ gb442) (.slice (some ad441) t435.length co19) t435) ∧ Aside0 (w'.heap[gb442]? = some (.cells #[.int .i64 ((rd_T47 t435 x45_6).f0), .int .i64 ((rd_T47 t435 x45_6).f1), .int .i64 ((rd_T47 t435 x45_6).f2), .bool ((rd_T47 t435 x45_6).f3)] 47 (0, 0))) ∧ Aside0 (Below w.heap.size w w'))
                  case atStart => exact ⟨(0), (0), (by first | rfl | (simp; done) | (simp [*]; done)), (by first | rfl | (simp; done) | (simp [*]; done)), H', ⟨Nat.le_refl _⟩, ⟨by (with_reducible repeat (first | apply Kd.R_alloc | apply Kd.R_drewN | apply Kd.R_drew)); exact Kd.R_mono (Kd.R_far (p := ⟨gb442, 3, none⟩) (Kd.R_far (p := ⟨gb442, 2, none⟩) (Kd.R_far (p := ⟨gb442, 1, none⟩) (Kd.R_far (p := ⟨gb442, 0, none⟩) (Kd.R_mono HO_43.out (fun k_ hk => (⟨hk, hk.2⟩ : _ ∧ k_ ≠ gb442))) (fun _ hk => hk.2) (.int .i64 ((rd_T47 t435 x45_6).f0))) (fun _ hk => hk.2) (.int .i64 ((rd_T47 t435 x45_6).f1))) (fun _ hk => hk.2) (.int .i64 ((rd_T47 t435 x45_6).f2))) (fun _ hk => hk.2) (.bool ((rd_T47 t435 x45_6).f3))) (fun _ hk => hk.1.2)⟩, ⟨by (with_reducible repeat (first | refine blk_drewN ?_ _ | refine blk_drew ?_ | refine blk_alloc ?_ _)); refine blk_put (cs := #[.int .i64 ((rd_T47 t435 x45_6).f0), .int .i64 ((rd_T47 t435 x45_6).f1), .int .i64 ((rd_T47 t435 x45_6).f2), .bool false]) ?_ 3 _ rfl; (with_reducible repeat (first | refine blk_drewN ?_ _ | refine blk_drew ?_ | refine blk_alloc ?_ _)); refine blk_put (cs := #[.int .i64 ((rd_T47 t435 x45_6).f0), .int .i64 ((rd_T47 t435 x45_6).f1), .int .i64 0, .bool false]) ?_ 2 _ rfl; (with_reducible repeat (first | refine blk_drewN ?_ _ | refine blk_drew ?_ | refine blk_alloc ?_ _)); refine blk_put (cs := #[.int .i64 ((rd_T47 t435 x45_6).f0), .int .i64 0, .int .i64 0, .bool false]) ?_ 1 _ rfl; (with_reducible repeat (first | refine blk_drewN ?_ _ | refine blk_drew ?_ | refine blk_alloc ?_ _)); refine blk_put (cs := #[.int .i64 0, .int .i64 0, .int .i64 0, .bool false]) ?_ 0 _ rfl; (with_reducible repeat (first | refine blk_drewN ?_ _ | refine blk_drew ?_ | refine blk_alloc ?_ _)); exact BK442.out⟩, ⟨by repeat (first | (with_reducible first | exact HB.out | apply below_alloc | apply pw_below_drewN | apply below_drew1 | refine below_set ?_ GE442.out) | exact HB.out)⟩⟩
                  case round =>
                   clear H'
                   try clear c1
                   try clear c2
                   try clear p2
                   try clear p4
                   try clear q4
                   try clear hx4
                   try clear c7
                   try clear c8
                   try clear c10
                   try clear c12
                   try clear c16
                   try clear c16b0
                   try clear c16b1
                   try clear c20
                   try clear c20b0
                   try clear c20b1
                   try clear c22
                   try clear c22b0
                   try clear c23
                   try clear c23b0
                   try clear c24
                   try clear c24b0
                   try clear c25
                   try clear c26
                   try clear hcz27_0
                   try clear hcz27_1
                   try clear hcz27_2
                   try clear hcz27_3
                   try clear hfz27_0
                   try clear hfz27_1
                   try clear hfz27_2
                   try clear hfz27_3
                   try clear hx441_0
                   try clear hx441_1
                   try clear hx441_2
                   try clear hx441_3
                   try clear p2
                   try clear p441
                   try clear q441
                   obtain ⟨x11_8, x50_8, rfl, rfl, HA, HK8, HO_43, BK442, HB⟩ := hrel
                   cases gk with
                   | zero => exact absurd HA.out (by simp [testamurlaw42_DevicesOnce.l1])
                   | succ k8 =>
                    have H := HA.out
                    clear HA
                    simp only [testamurlaw42_DevicesOnce.l1] at H
                    have HC28 := Aside0.mk H
                    clear H
                    go_upto_if 51 with (fail)
                    go_cut [] (fun wc => ∃ (kq : Nat), Aside0 (testamurlaw42_DevicesOnce.j8 kq l0 a1 a2 x45_6 x11_8 t435 (t435.length : Int) x45_6 x50_8 ((rd_T47 t435 x45_6).f0) ((rd_T47 t435 x45_6).f1) ((rd_T47 t435 x45_6).f2) ((rd_T47 t435 x45_6).f3) = some r) ∧ Aside0 (kq ≤ k8) ∧ Aside0 (Kd.R k47 47 wc w.heap.size (fun k_ => k_ ≠ gb442) (.slice (some ad441) t435.length co19) t435) ∧ Aside0 (wc.heap[gb442]? = some (.cells #[.int .i64 ((rd_T47 t435 x45_6).f0), .int .i64 ((rd_T47 t435 x45_6).f1), .int .i64 ((rd_T47 t435 x45_6).f2), .bool ((rd_T47 t435 x45_6).f3)] 47 (0, 0))) ∧ Aside0 (Below w.heap.size w wc))
                    case first =>
                     have H := HC28.out
                     clear HC28
                     by_cases c29 : x50_8 < 4
                     ·rw [if_pos c29] at H
                      have c29b0 : decide (x50_8 < 4) = true := decide_eq_true c29
                      clear c29
                      (first | rw [c29b0] | (simp only [i64_w, i32_w]; rw [c29b0]) | skip)
                      have H' := Aside0.mk H
                      clear H
                      go_wp2
                      go_meet
                      case rel => exact ⟨_, H', ⟨by have := HJ4.out; have := HJ7.out; have := HJ10.out; have := HJ13.out; have := HJ17.out; have := HK6.out; have := HJ20.out; have := HK8.out; first | omega | exact Nat.le_refl _⟩, ⟨by (with_reducible repeat (first | apply Kd.R_alloc | apply Kd.R_drewN | apply Kd.R_drew)); exact HO_43.out⟩, ⟨by (with_reducible repeat (first | refine blk_drewN ?_ _ | refine blk_drew ?_ | refine blk_alloc ?_ _)); exact BK442.out⟩, ⟨by repeat (first | (with_reducible first | exact HB.out | apply below_alloc | apply pw_below_drewN | apply below_drew1 | refine below_set ?_ GE442.out) | exact HB.out)⟩⟩
                     ·rw [if_neg c29] at H
                      have c29b0 : decide (x50_8 < 4) = false := decide_eq_false c29
                      clear c29
                      (first | rw [c29b0] | (simp only [i64_w, i32_w]; rw [c29b0]) | skip)
                      have H' := Aside0.mk H
                      clear H
                      go_wp2
                      go_meet
                      case rel => exact ⟨_, (x11_8), (by first | rfl | (simp; done) | (simp [*]; done)), H', ⟨by have := HJ4.out; have := HJ7.out; have := HJ10.out; have := HJ13.out; have := HJ17.out; have := HK6.out; have := HJ20.out; have := HK8.out; first | omega | exact Nat.le_refl _⟩, ⟨by (with_reducible repeat (first | apply Kd.R_alloc | apply Kd.R_drewN | apply Kd.R_drew)); exact HO_43.out⟩, ⟨by (with_reducible repeat (first | refine blk_drewN ?_ _ | refine blk_drew ?_ | refine blk_alloc ?_ _)); exact BK442.out⟩, ⟨by repeat (first | (with_reducible first | exact HB.out | apply below_alloc | apply pw_below_drewN | apply below_drew1 | refine below_set ?_ GE442.out) | exact HB.out)⟩⟩
                    case rest =>
                     clear HC28
                     try clear c1
                     try clear c2
                     try clear p2
                     try clear p4
                     try clear q4
                     try clear hx4
                     try clear c7
                     try clear c8
                     try clear c10
                     try clear c12
                     try clear c16
                     try clear c16b0
                     try clear c16b1
                     try clear c20
                     try clear c20b0
                     try clear c20b1
                     try clear c22
                     try clear c22b0
                     try clear c23
                     try clear c23b0
                     try clear c24
                     try clear c24b0
                     try clear c25
                     try clear c26
                     try clear c29
                     try clear c29b0
                     try clear hcz27_0
                     try clear hcz27_1
                     try clear hcz27_2
                     try clear hcz27_3
                     try clear hfz27_0
                     try clear hfz27_1
                     try clear hfz27_2
                     try clear hfz27_3
                     try clear hx441_0
                     try clear hx441_1
                     try clear hx441_2
                     try clear hx441_3
                     try clear p2
                     try clear p4
                     try clear p441
                     try clear q4
                     try clear q441
                     obtain ⟨kq, HA, HJ27, HO_43, BK442, HB⟩ := hcut
                     cases kq with
                     | zero => exact absurd HA.out (by simp [testamurlaw42_DevicesOnce.j8])
                     | succ kj27 =>
                      have H := HA.out
                      clear HA
                      simp only [testamurlaw42_DevicesOnce.j8] at H
                      replace H := Option.bind_eq_some_iff.mp H
                      obtain ⟨⟨t443, t444⟩, A300, H⟩ := H
                      replace H : (if t444 = 0 then (if t443 = true then (testamurlaw42_DevicesOnce.l1 kj27 l0 a1 a2 x45_6 (wrap64 (x11_8 + 1)) t435 (t435.length : Int) x45_6 (wrap64 (x50_8 + 1)) ((rd_T47 t435 x45_6).f0) ((rd_T47 t435 x45_6).f1) ((rd_T47 t435 x45_6).f2) ((rd_T47 t435 x45_6).f3)) else (testamurlaw42_DevicesOnce.l1 kj27 l0 a1 a2 x45_6 x11_8 t435 (t435.length : Int) x45_6 (wrap64 (x50_8 + 1)) ((rd_T47 t435 x45_6).f0) ((rd_T47 t435 x45_6).f1) ((rd_T47 t435 x45_6).f2) ((rd_T47 t435 x45_6).f3))) else (some false)) = some r := H
                      have A30 := Aside0.mk A300
                      clear A300
                      by_cases c31 : t444 = 0
                      ·rw [if_pos c31] at H
                       have c31b0 : (t444 == 0) = true := beq_iff_eq.mpr c31
                       have c31b1 : (t444 != 0) = false := bne_eq_false_iff_eq.mpr c31
                       clear c31
                       by_cases c32 : t443 = true
                       ·subst c32
                        have H1 : (testamurlaw42_DevicesOnce.l1 kj27 l0 a1 a2 x45_6 (wrap64 (x11_8 + 1)) t435 (t435.length : Int) x45_6 (wrap64 (x50_8 + 1)) ((rd_T47 t435 x45_6).f0) ((rd_T47 t435 x45_6).f1) ((rd_T47 t435 x45_6).f2) ((rd_T47 t435 x45_6).f3)) = some r := by rw [if_pos rfl] at H; exact H
                        clear H
                        have H := H1
                        clear H1
                        have H' := Aside0.mk H
                        clear H
                        go_wp2_with ((with_reducible refine gate_callee (f := 34) rfl ?_); refine Aside0.out (p := _) ?_)
                        refine ⟨?_⟩
                        refine goesL_ (some 59) rfl rfl Try.func34 (by kernel_rfl) rfl #[.slice A0 l0.length c0, .int .i64 a1, .int .i64 a2, .int .i64 x50_8, .int .i64 x45_6] rfl (by (try simp only [List.map_toArray, List.map_cons, List.map_nil]); first | done | rfl | (simp only [List.length_drop, List.length_take]; rfl)) ?_
                        (with_reducible refine (devices_May.calls _ _ l0 a1 a2 x50_8 x45_6 true t444 _ ?side1 ?side2 A30.out).mono ?_)
                        (case side1 => repeat (first | exact (Kd.C_below HR0.out HB.out) | (with_reducible refine Kd.C_alloc ?_ _) | (with_reducible refine Kd.C_drewN ?_ _) | (with_reducible refine Kd.C_drew ?_)))
                        (case side2 => exact HC0.out)
                        rintro e w33 ⟨rfl, hb⟩
                        refine ⟨_, rfl, ?_⟩
                        have n0_ := Aside0.mk (Kd.R_below (by (with_reducible repeat (first | apply Kd.R_alloc | apply Kd.R_drewN | apply Kd.R_drew)); exact HO_43.out) hb)
                        have n1_ := Aside0.mk (blk_below (g := gb442) (o := .cells #[.int .i64 ((rd_T47 t435 x45_6).f0), .int .i64 ((rd_T47 t435 x45_6).f1), .int .i64 ((rd_T47 t435 x45_6).f2), .bool ((rd_T47 t435 x45_6).f3)] 47 (0, 0)) (by (with_reducible repeat (first | refine blk_drewN ?_ _ | refine blk_drew ?_ | refine blk_alloc ?_ _)); exact BK442.out) hb)
                        have n2_ := Aside0.mk (below_step (by repeat (first | (with_reducible first | exact HB.out | apply below_alloc | apply pw_below_drewN | apply below_drew1 | refine below_set ?_ GE442.out) | exact HB.out)) hb)
                        clear HO_43
                        clear BK442
                        clear HB
                        have HO_43 := n0_
                        have BK442 := n1_
                        have HB := n2_
                        clear n0_ n1_ n2_
                        (try clear hb)
                        (try clear hb2)
                        (try clear hk)
                        (try clear hi)
                        go_wp2
                        go_roundg kj27
                        case measure => have := HJ4.out; have := HJ7.out; have := HJ10.out; have := HJ13.out; have := HJ17.out; have := HK6.out; have := HJ20.out; have := HK8.out; have := HJ27.out; omega
                        case rel => exact ⟨(wrap64 (x11_8 + 1)), (wrap64 (x50_8 + 1)), (by first | rfl | (simp; done) | (simp [*]; done)), (by first | rfl | (simp; done) | (simp [*]; done)), H', ⟨by have := HJ4.out; have := HJ7.out; have := HJ10.out; have := HJ13.out; have := HJ17.out; have := HK6.out; have := HJ20.out; have := HK8.out; have := HJ27.out; omega⟩, ⟨by (with_reducible repeat (first | apply Kd.R_alloc | apply Kd.R_drewN | apply Kd.R_drew)); exact HO_43.out⟩, ⟨by (with_reducible repeat (first | refine blk_drewN ?_ _ | refine blk_drew ?_ | refine blk_alloc ?_ _)); exact BK442.out⟩, ⟨by repeat (first | (with_reducible first | exact HB.out | apply below_alloc | apply pw_below_drewN | apply below_drew1 | refine below_set ?_ GE442.out) | exact HB.out)⟩⟩
                       ·replace c32 := Bool.eq_false_iff.mpr c32
                        subst c32
                        have H1 : (testamurlaw42_DevicesOnce.l1 kj27 l0 a1 a2 x45_6 x11_8 t435 (t435.length : Int) x45_6 (wrap64 (x50_8 + 1)) ((rd_T47 t435 x45_6).f0) ((rd_T47 t435 x45_6).f1) ((rd_T47 t435 x45_6).f2) ((rd_T47 t435 x45_6).f3)) = some r := by rw [if_neg (show ¬ (false = true) by decide)] at H; exact H
                        clear H
                        have H := H1
                        clear H1
                        have H' := Aside0.mk H
                        clear H
                        go_wp2_with ((with_reducible refine gate_callee (f := 34) rfl ?_); refine Aside0.out (p := _) ?_)
                        refine ⟨?_⟩
                        refine goesL_ (some 59) rfl rfl Try.func34 (by kernel_rfl) rfl #[.slice A0 l0.length c0, .int .i64 a1, .int .i64 a2, .int .i64 x50_8, .int .i64 x45_6] rfl (by (try simp only [List.map_toArray, List.map_cons, List.map_nil]); first | done | rfl | (simp only [List.length_drop, List.length_take]; rfl)) ?_
                        (with_reducible refine (devices_May.calls _ _ l0 a1 a2 x50_8 x45_6 false t444 _ ?side1 ?side2 A30.out).mono ?_)
                        (case side1 => repeat (first | exact (Kd.C_below HR0.out HB.out) | (with_reducible refine Kd.C_alloc ?_ _) | (with_reducible refine Kd.C_drewN ?_ _) | (with_reducible refine Kd.C_drew ?_)))
                        (case side2 => exact HC0.out)
                        rintro e w34 ⟨rfl, hb⟩
                        refine ⟨_, rfl, ?_⟩
                        have n0_ := Aside0.mk (Kd.R_below (by (with_reducible repeat (first | apply Kd.R_alloc | apply Kd.R_drewN | apply Kd.R_drew)); exact HO_43.out) hb)
                        have n1_ := Aside0.mk (blk_below (g := gb442) (o := .cells #[.int .i64 ((rd_T47 t435 x45_6).f0), .int .i64 ((rd_T47 t435 x45_6).f1), .int .i64 ((rd_T47 t435 x45_6).f2), .bool ((rd_T47 t435 x45_6).f3)] 47 (0, 0)) (by (with_reducible repeat (first | refine blk_drewN ?_ _ | refine blk_drew ?_ | refine blk_alloc ?_ _)); exact BK442.out) hb)
                        have n2_ := Aside0.mk (below_step (by repeat (first | (with_reducible first | exact HB.out | apply below_alloc | apply pw_below_drewN | apply below_drew1 | refine below_set ?_ GE442.out) | exact HB.out)) hb)
                        clear HO_43
                        clear BK442
                        clear HB
                        have HO_43 := n0_
                        have BK442 := n1_
                        have HB := n2_
                        clear n0_ n1_ n2_
                        (try clear hb)
                        (try clear hb2)
                        (try clear hk)
                        (try clear hi)
                        go_wp2
                        go_roundg kj27
                        case measure => have := HJ4.out; have := HJ7.out; have := HJ10.out; have := HJ13.out; have := HJ17.out; have := HK6.out; have := HJ20.out; have := HK8.out; have := HJ27.out; omega
                        case rel => exact ⟨(x11_8), (wrap64 (x50_8 + 1)), (by first | rfl | (simp; done) | (simp [*]; done)), (by first | rfl | (simp; done) | (simp [*]; done)), H', ⟨by have := HJ4.out; have := HJ7.out; have := HJ10.out; have := HJ13.out; have := HJ17.out; have := HK6.out; have := HJ20.out; have := HK8.out; have := HJ27.out; omega⟩, ⟨by (with_reducible repeat (first | apply Kd.R_alloc | apply Kd.R_drewN | apply Kd.R_drew)); exact HO_43.out⟩, ⟨by (with_reducible repeat (first | refine blk_drewN ?_ _ | refine blk_drew ?_ | refine blk_alloc ?_ _)); exact BK442.out⟩, ⟨by repeat (first | (with_reducible first | exact HB.out | apply below_alloc | apply pw_below_drewN | apply below_drew1 | refine below_set ?_ GE442.out) | exact HB.out)⟩⟩
                      ·rw [if_neg c31] at H
                       have c31b0 : (t444 == 0) = false := beq_eq_false_iff_ne.mpr c31
                       have c31b1 : (t444 != 0) = true := bne_iff_ne.mpr c31
                       obtain rfl := Option.some.inj H
                       go_wp2_with ((with_reducible refine gate_callee (f := 34) rfl ?_); refine Aside0.out (p := _) ?_)
                       refine ⟨?_⟩
                       refine goesL_ (some 59) rfl rfl Try.func34 (by kernel_rfl) rfl #[.slice A0 l0.length c0, .int .i64 a1, .int .i64 a2, .int .i64 x50_8, .int .i64 x45_6] rfl (by (try simp only [List.map_toArray, List.map_cons, List.map_nil]); first | done | rfl | (simp only [List.length_drop, List.length_take]; rfl)) ?_
                       (with_reducible refine (devices_May.calls _ _ l0 a1 a2 x50_8 x45_6 t443 t444 _ ?side1 ?side2 A30.out).mono ?_)
                       (case side1 => repeat (first | exact (Kd.C_below HR0.out HB.out) | (with_reducible refine Kd.C_alloc ?_ _) | (with_reducible refine Kd.C_drewN ?_ _) | (with_reducible refine Kd.C_drew ?_)))
                       (case side2 => exact HC0.out)
                       rintro e w35 ⟨rfl, hb⟩
                       refine ⟨_, rfl, ?_⟩
                       have n0_ := Aside0.mk (Kd.R_below (by (with_reducible repeat (first | apply Kd.R_alloc | apply Kd.R_drewN | apply Kd.R_drew)); exact HO_43.out) hb)
                       have n1_ := Aside0.mk (blk_below (g := gb442) (o := .cells #[.int .i64 ((rd_T47 t435 x45_6).f0), .int .i64 ((rd_T47 t435 x45_6).f1), .int .i64 ((rd_T47 t435 x45_6).f2), .bool ((rd_T47 t435 x45_6).f3)] 47 (0, 0)) (by (with_reducible repeat (first | refine blk_drewN ?_ _ | refine blk_drew ?_ | refine blk_alloc ?_ _)); exact BK442.out) hb)
                       have n2_ := Aside0.mk (below_step (by repeat (first | (with_reducible first | exact HB.out | apply below_alloc | apply pw_below_drewN | apply below_drew1 | refine below_set ?_ GE442.out) | exact HB.out)) hb)
                       clear HO_43
                       clear BK442
                       clear HB
                       have HO_43 := n0_
                       have BK442 := n1_
                       have HB := n2_
                       clear n0_ n1_ n2_
                       (try clear hb)
                       (try clear hb2)
                       (try clear hk)
                       (try clear hi)
                       go_wp2
                       go_ret
                       exact ⟨by first | rfl | (simp [errW_none, errW_some] <;> rfl) | (simp [*, errW_none, errW_some] <;> rfl), by repeat (first | (with_reducible first | exact HB.out | apply below_alloc | apply pw_below_drewN | apply below_drew1 | refine below_set ?_ GE442.out) | exact HB.out)⟩
                 case rest =>
                  clear HC25
                  try clear c1
                  try clear c2
                  try clear p2
                  try clear c3
                  try clear p4
                  try clear q4
                  try clear hx4
                  try clear p6
                  try clear c7
                  try clear c8
                  try clear c10
                  try clear c12
                  try clear c16
                  try clear c16b0
                  try clear c16b1
                  try clear c20
                  try clear c20b0
                  try clear c20b1
                  try clear c22
                  try clear c22b0
                  try clear c23
                  try clear c23b0
                  try clear c24
                  try clear c24b0
                  try clear c25
                  try clear c26
                  try clear c29
                  try clear c29b0
                  try clear c31
                  try clear c31b0
                  try clear c31b1
                  try clear c32
                  try clear c34
                  try clear hcz27_0
                  try clear hcz27_1
                  try clear hcz27_2
                  try clear hcz27_3
                  try clear hfz27_0
                  try clear hfz27_1
                  try clear hfz27_2
                  try clear hfz27_3
                  try clear hx441_0
                  try clear hx441_1
                  try clear hx441_2
                  try clear hx441_3
                  try clear p2
                  try clear p4
                  try clear p441
                  try clear q4
                  try clear q441
                  obtain ⟨kq, x11_24, rfl, HA, HJ24, HO_43, BK442, HB⟩ := hcut
                  cases kq with
                  | zero => exact absurd HA.out (by simp [testamurlaw42_DevicesOnce.j9])
                  | succ kj24 =>
                   have H := HA.out
                   clear HA
                   simp only [testamurlaw42_DevicesOnce.j9] at H
                   have HC36 := Aside0.mk H
                   clear H
                   go_upto_region 23 with (fail)
                   go_cut [82] (fun v82 wc => ∃ (kq : Nat) (x82_35 : Bool), v82 = .bool x82_35 ∧ Aside0 (testamurlaw42_DevicesOnce.j10 kq l0 a1 a2 x45_6 t435 (t435.length : Int) x45_6 x82_35 ((rd_T47 t435 x45_6).f0) ((rd_T47 t435 x45_6).f1) ((rd_T47 t435 x45_6).f2) ((rd_T47 t435 x45_6).f3) = some r) ∧ Aside0 (kq ≤ kj24) ∧ Aside0 (Kd.R k47 47 wc w.heap.size (fun k_ => k_ ≠ gb442) (.slice (some ad441) t435.length co19) t435) ∧ Aside0 (wc.heap[gb442]? = some (.cells #[.int .i64 ((rd_T47 t435 x45_6).f0), .int .i64 ((rd_T47 t435 x45_6).f1), .int .i64 ((rd_T47 t435 x45_6).f2), .bool ((rd_T47 t435 x45_6).f3)] 47 (0, 0))) ∧ Aside0 (Below w.heap.size w wc))
                   case first =>
                    have H := HC36.out
                    clear HC36
                    by_cases c37 : ((rd_T47 t435 x45_6).f0) = x45_6
                    ·rw [if_pos c37] at H
                     have c37b0 : (((rd_T47 t435 x45_6).f0) == x45_6) = true := beq_iff_eq.mpr c37
                     have c37b1 : (((rd_T47 t435 x45_6).f0) != x45_6) = false := bne_eq_false_iff_eq.mpr c37
                     clear c37
                     (first | rw [c37b0] | (simp only [i64_w, i32_w]; rw [c37b0]) | skip)
                     by_cases c38 : x11_24 > 1
                     ·rw [if_pos c38] at H
                      have c38b0 : decide (1 < x11_24) = true := decide_eq_true c38
                      clear c38
                      have H' := Aside0.mk H
                      clear H
                      have hcz39_0 : wc.cell? ⟨gb442, 0, none⟩ = some (.int .i64 ((rd_T47 t435 x45_6).f0)) := (blk_cell BK442.out 0).trans rfl
                      have hcz39_1 : wc.cell? ⟨gb442, 1, none⟩ = some (.int .i64 ((rd_T47 t435 x45_6).f1)) := (blk_cell BK442.out 1).trans rfl
                      have hcz39_2 : wc.cell? ⟨gb442, 2, none⟩ = some (.int .i64 ((rd_T47 t435 x45_6).f2)) := (blk_cell BK442.out 2).trans rfl
                      have hcz39_3 : wc.cell? ⟨gb442, 3, none⟩ = some (.bool ((rd_T47 t435 x45_6).f3)) := (blk_cell BK442.out 3).trans rfl
                      have hfz39_0 := blk_frozen BK442.out 0
                      have hfz39_1 := blk_frozen BK442.out 1
                      have hfz39_2 := blk_frozen BK442.out 2
                      have hfz39_3 := blk_frozen BK442.out 3
                      go_wp2
                      go_meet
                      case rel => exact ⟨_, (true), (by first | rfl | (simp; done) | (simp [*]; done)), H', ⟨by have := HJ4.out; have := HJ7.out; have := HJ10.out; have := HJ13.out; have := HJ17.out; have := HK6.out; have := HJ20.out; have := HJ24.out; first | omega | exact Nat.le_refl _⟩, ⟨by (with_reducible repeat (first | apply Kd.R_alloc | apply Kd.R_drewN | apply Kd.R_drew)); exact HO_43.out⟩, ⟨by (with_reducible repeat (first | refine blk_drewN ?_ _ | refine blk_drew ?_ | refine blk_alloc ?_ _)); exact BK442.out⟩, ⟨by repeat (first | (with_reducible first | exact HB.out | apply below_alloc | apply pw_below_drewN | apply below_drew1 | refine below_set ?_ GE442.out) | exact HB.out)⟩⟩
                     ·rw [if_neg c38] at H
                      have c38b0 : decide (1 < x11_24) = false := decide_eq_false c38
                      clear c38
                      have H' := Aside0.mk H
                      clear H
                      have hcz40_0 : wc.cell? ⟨gb442, 0, none⟩ = some (.int .i64 ((rd_T47 t435 x45_6).f0)) := (blk_cell BK442.out 0).trans rfl
                      have hcz40_1 : wc.cell? ⟨gb442, 1, none⟩ = some (.int .i64 ((rd_T47 t435 x45_6).f1)) := (blk_cell BK442.out 1).trans rfl
                      have hcz40_2 : wc.cell? ⟨gb442, 2, none⟩ = some (.int .i64 ((rd_T47 t435 x45_6).f2)) := (blk_cell BK442.out 2).trans rfl
                      have hcz40_3 : wc.cell? ⟨gb442, 3, none⟩ = some (.bool ((rd_T47 t435 x45_6).f3)) := (blk_cell BK442.out 3).trans rfl
                      have hfz40_0 := blk_frozen BK442.out 0
                      have hfz40_1 := blk_frozen BK442.out 1
                      have hfz40_2 := blk_frozen BK442.out 2
                      have hfz40_3 := blk_frozen BK442.out 3
                      go_wp2
                      go_meet
                      case rel => exact ⟨_, ((((rd_T47 t435 x45_6).f3) != (x11_24 == 0))), (by first | rfl | (simp; done) | (simp [*]; done)), H', ⟨by have := HJ4.out; have := HJ7.out; have := HJ10.out; have := HJ13.out; have := HJ17.out; have := HK6.out; have := HJ20.out; have := HJ24.out; first | omega | exact Nat.le_refl _⟩, ⟨by (with_reducible repeat (first | apply Kd.R_alloc | apply Kd.R_drewN | apply Kd.R_drew)); exact HO_43.out⟩, ⟨by (with_reducible repeat (first | refine blk_drewN ?_ _ | refine blk_drew ?_ | refine blk_alloc ?_ _)); exact BK442.out⟩, ⟨by repeat (first | (with_reducible first | exact HB.out | apply below_alloc | apply pw_below_drewN | apply below_drew1 | refine below_set ?_ GE442.out) | exact HB.out)⟩⟩
                    ·rw [if_neg c37] at H
                     have c37b0 : (((rd_T47 t435 x45_6).f0) == x45_6) = false := beq_eq_false_iff_ne.mpr c37
                     have c37b1 : (((rd_T47 t435 x45_6).f0) != x45_6) = true := bne_iff_ne.mpr c37
                     (first | rw [c37b0] | (simp only [i64_w, i32_w]; rw [c37b0]) | skip)
                     have H' := Aside0.mk H
                     clear H
                     have hcz41_0 : wc.cell? ⟨gb442, 0, none⟩ = some (.int .i64 ((rd_T47 t435 x45_6).f0)) := (blk_cell BK442.out 0).trans rfl
                     have hcz41_1 : wc.cell? ⟨gb442, 1, none⟩ = some (.int .i64 ((rd_T47 t435 x45_6).f1)) := (blk_cell BK442.out 1).trans rfl
                     have hcz41_2 : wc.cell? ⟨gb442, 2, none⟩ = some (.int .i64 ((rd_T47 t435 x45_6).f2)) := (blk_cell BK442.out 2).trans rfl
                     have hcz41_3 : wc.cell? ⟨gb442, 3, none⟩ = some (.bool ((rd_T47 t435 x45_6).f3)) := (blk_cell BK442.out 3).trans rfl
                     have hfz41_0 := blk_frozen BK442.out 0
                     have hfz41_1 := blk_frozen BK442.out 1
                     have hfz41_2 := blk_frozen BK442.out 2
                     have hfz41_3 := blk_frozen BK442.out 3
                     go_wp2
                     go_meet
                     case rel => exact ⟨_, (true), (by first | rfl | (simp; done) | (simp [*]; done)), H', ⟨by have := HJ4.out; have := HJ7.out; have := HJ10.out; have := HJ13.out; have := HJ17.out; have := HK6.out; have := HJ20.out; have := HJ24.out; first | omega | exact Nat.le_refl _⟩, ⟨by (with_reducible repeat (first | apply Kd.R_alloc | apply Kd.R_drewN | apply Kd.R_drew)); exact HO_43.out⟩, ⟨by (with_reducible repeat (first | refine blk_drewN ?_ _ | refine blk_drew ?_ | refine blk_alloc ?_ _)); exact BK442.out⟩, ⟨by repeat (first | (with_reducible first | exact HB.out | apply below_alloc | apply pw_below_drewN | apply below_drew1 | refine below_set ?_ GE442.out) | exact HB.out)⟩⟩
                   case rest =>
                    clear HC36
                    try clear c1
                    try clear c2
                    try clear p2
                    try clear c3
                    try clear p4
                    try clear q4
                    try clear hx4
                    try clear p6
                    try clear c7
                    try clear c8
                    try clear c10
                    try clear c12
                    try clear c16
                    try clear c16b0
                    try clear c16b1
                    try clear c20
                    try clear c20b0
                    try clear c20b1
                    try clear c22
                    try clear c22b0
                    try clear c23
                    try clear c23b0
                    try clear c24
                    try clear c24b0
                    try clear c25
                    try clear c26
                    try clear c29
                    try clear c29b0
                    try clear c31
                    try clear c31b0
                    try clear c31b1
                    try clear c32
                    try clear c34
                    try clear c37
                    try clear c37b0
                    try clear c37b1
                    try clear c38
                    try clear c38b0
                    try clear hcz27_0
                    try clear hcz27_1
                    try clear hcz27_2
                    try clear hcz27_3
                    try clear hcz39_0
                    try clear hcz39_1
                    try clear hcz39_2
                    try clear hcz39_3
                    try clear hcz40_0
                    try clear hcz40_1
                    try clear hcz40_2
                    try clear hcz40_3
                    try clear hcz41_0
                    try clear hcz41_1
                    try clear hcz41_2
                    try clear hcz41_3
                    try clear hfz27_0
                    try clear hfz27_1
                    try clear hfz27_2
                    try clear hfz27_3
                    try clear hfz39_0
                    try clear hfz39_1
                    try clear hfz39_2
                    try clear hfz39_3
                    try clear hfz40_0
                    try clear hfz40_1
                    try clear hfz40_2
                    try clear hfz40_3
                    try clear hfz41_0
                    try clear hfz41_1
                    try clear hfz41_2
                    try clear hfz41_3
                    try clear hx441_0
                    try clear hx441_1
                    try clear hx441_2
                    try clear hx441_3
                    try clear p2
                    try clear p4
                    try clear p441
                    try clear p6
                    try clear q4
                    try clear q441
                    obtain ⟨kq, x82_35, rfl, HA, HJ35, HO_43, BK442, HB⟩ := hcut
                    cases kq with
                    | zero => exact absurd HA.out (by simp [testamurlaw42_DevicesOnce.j10])
                    | succ kj35 =>
                     have H := HA.out
                     clear HA
                     simp only [testamurlaw42_DevicesOnce.j10] at H
                     have HC42 := Aside0.mk H
                     clear H
                     go_upto_if 82 with (fail)
                     go_cut [] (fun wc => ∃ (kq : Nat), Aside0 (testamurlaw42_DevicesOnce.j11 kq l0 a1 a2 x45_6 t435 (t435.length : Int) x45_6 ((rd_T47 t435 x45_6).f0) ((rd_T47 t435 x45_6).f1) ((rd_T47 t435 x45_6).f2) ((rd_T47 t435 x45_6).f3) = some r) ∧ Aside0 (kq ≤ kj35) ∧ Aside0 (Kd.R k47 47 wc w.heap.size (fun k_ => k_ ≠ gb442) (.slice (some ad441) t435.length co19) t435) ∧ Aside0 (wc.heap[gb442]? = some (.cells #[.int .i64 ((rd_T47 t435 x45_6).f0), .int .i64 ((rd_T47 t435 x45_6).f1), .int .i64 ((rd_T47 t435 x45_6).f2), .bool ((rd_T47 t435 x45_6).f3)] 47 (0, 0))) ∧ Aside0 (Below w.heap.size w wc))
                     case first =>
                      have H := HC42.out
                      clear HC42
                      by_cases c43 : x82_35 = true
                      ·subst c43
                       have H1 : (some false) = some r := by rw [if_pos rfl] at H; exact H
                       clear H
                       have H := H1
                       clear H1
                       obtain rfl := Option.some.inj H
                       go_wp2
                       go_ret
                       exact ⟨by first | rfl | (simp [errW_none, errW_some] <;> rfl) | (simp [*, errW_none, errW_some] <;> rfl), by repeat (first | (with_reducible first | exact HB.out | apply below_alloc | apply pw_below_drewN | apply below_drew1 | refine below_set ?_ GE442.out) | exact HB.out)⟩
                      ·replace c43 := Bool.eq_false_iff.mpr c43
                       subst c43
                       have H1 : (testamurlaw42_DevicesOnce.j11 kj35 l0 a1 a2 x45_6 t435 (t435.length : Int) x45_6 ((rd_T47 t435 x45_6).f0) ((rd_T47 t435 x45_6).f1) ((rd_T47 t435 x45_6).f2) ((rd_T47 t435 x45_6).f3)) = some r := by rw [if_neg (show ¬ (false = true) by decide)] at H; exact H
                       clear H
                       have H := H1
                       clear H1
                       have H' := Aside0.mk H
                       clear H
                       go_wp2
                       go_meet
                       case rel => exact ⟨_, H', ⟨by have := HJ4.out; have := HJ7.out; have := HJ10.out; have := HJ13.out; have := HJ17.out; have := HK6.out; have := HJ20.out; have := HJ24.out; have := HJ35.out; first | omega | exact Nat.le_refl _⟩, ⟨by (with_reducible repeat (first | apply Kd.R_alloc | apply Kd.R_drewN | apply Kd.R_drew)); exact HO_43.out⟩, ⟨by (with_reducible repeat (first | refine blk_drewN ?_ _ | refine blk_drew ?_ | refine blk_alloc ?_ _)); exact BK442.out⟩, ⟨by repeat (first | (with_reducible first | exact HB.out | apply below_alloc | apply pw_below_drewN | apply below_drew1 | refine below_set ?_ GE442.out) | exact HB.out)⟩⟩
                     case rest =>
                      clear HC42
                      try clear c1
                      try clear c2
                      try clear p2
                      try clear c3
                      try clear c4
                      try clear p4
                      try clear q4
                      try clear hx4
                      try clear p6
                      try clear c7
                      try clear c8
                      try clear c10
                      try clear c12
                      try clear c16
                      try clear c16b0
                      try clear c16b1
                      try clear c20
                      try clear c20b0
                      try clear c20b1
                      try clear c22
                      try clear c22b0
                      try clear c23
                      try clear c23b0
                      try clear c24
                      try clear c24b0
                      try clear c25
                      try clear c26
                      try clear c29
                      try clear c29b0
                      try clear c31
                      try clear c31b0
                      try clear c31b1
                      try clear c32
                      try clear c34
                      try clear c37
                      try clear c37b0
                      try clear c37b1
                      try clear c38
                      try clear c38b0
                      try clear c43
                      try clear hcz27_0
                      try clear hcz27_1
                      try clear hcz27_2
                      try clear hcz27_3
                      try clear hcz39_0
                      try clear hcz39_1
                      try clear hcz39_2
                      try clear hcz39_3
                      try clear hcz40_0
                      try clear hcz40_1
                      try clear hcz40_2
                      try clear hcz40_3
                      try clear hcz41_0
                      try clear hcz41_1
                      try clear hcz41_2
                      try clear hcz41_3
                      try clear hfz27_0
                      try clear hfz27_1
                      try clear hfz27_2
                      try clear hfz27_3
                      try clear hfz39_0
                      try clear hfz39_1
                      try clear hfz39_2
                      try clear hfz39_3
                      try clear hfz40_0
                      try clear hfz40_1
                      try clear hfz40_2
                      try clear hfz40_3
                      try clear hfz41_0
                      try clear hfz41_1
                      try clear hfz41_2
                      try clear hfz41_3
                      try clear hx441_0
                      try clear hx441_1
                      try clear hx441_2
                      try clear hx441_3
                      try clear p2
                      try clear p4
                      try clear p441
                      try clear p6
                      try clear q4
                      try clear q441
                      obtain ⟨kq, HA, HJ41, HO_43, BK442, HB⟩ := hcut
                      cases kq with
                      | zero => exact absurd HA.out (by simp [testamurlaw42_DevicesOnce.j11])
                      | succ kj41 =>
                       have H := HA.out
                       clear HA
                       simp only [testamurlaw42_DevicesOnce.j11] at H
                       have H' := Aside0.mk H
                       clear H
                       go_wp2_with ((with_reducible refine gate_dst (N := 15) rfl ?_); refine Aside0.out (p := _) ?_)
                       refine ⟨?_⟩
                       refine box_event ?hg (N := 15) ?hd (cs := #[.int .i64 0, .int .i64 0, .int .i64 0, .bool false]) (t := 47) ?hr ?_; (case hd => rfl); (case hg => rfl); (case hr => first | (go_simp; done) | (go_simp; rfl))
                       intro gb445 hg w44 hbox hb
                       have n0_ := Aside0.mk (Kd.R_below (Kd.R_elderB (by (with_reducible repeat (first | apply Kd.R_alloc | apply Kd.R_drewN | apply Kd.R_drew)); exact HO_43.out) gb445 (Nat.le_of_eq hg.symm)) hb)
                       have n1_ := Aside0.mk (blk_below (g := gb442) (o := .cells #[.int .i64 ((rd_T47 t435 x45_6).f0), .int .i64 ((rd_T47 t435 x45_6).f1), .int .i64 ((rd_T47 t435 x45_6).f2), .bool ((rd_T47 t435 x45_6).f3)] 47 (0, 0)) (by (with_reducible repeat (first | refine blk_drewN ?_ _ | refine blk_drew ?_ | refine blk_alloc ?_ _)); exact BK442.out) hb)
                       have n2_ := Aside0.mk (below_step (by repeat (first | (with_reducible first | exact HB.out | apply below_alloc | apply pw_below_drewN | apply below_drew1 | refine below_set ?_ GE442.out) | exact HB.out)) hb)
                       have n3_ := Aside0.mk (hbox)
                       have n4_ := Aside0.mk ((by rw [hg]; exact (below_size (by repeat (first | (with_reducible first | exact HB.out | apply below_alloc | apply pw_below_drewN | apply below_drew1 | refine below_set ?_ GE442.out) | exact HB.out))) : w.heap.size ≤ gb445))
                       have n5_ := Aside0.mk ((by rw [hg]; exact (below_size (by repeat (first | (with_reducible first | exact HB.out | apply below_alloc | apply pw_below_drewN | apply below_drew1 | refine below_set ?_ GE442.out) | exact HB.out))) : w.heap.size ≤ gb445))
                       have n6_ := Aside0.mk ((by rw [hg]; exact Nat.ne_of_lt (blk_lt (g := gb442) (o := .cells #[.int .i64 ((rd_T47 t435 x45_6).f0), .int .i64 ((rd_T47 t435 x45_6).f1), .int .i64 ((rd_T47 t435 x45_6).f2), .bool ((rd_T47 t435 x45_6).f3)] 47 (0, 0)) (by (with_reducible repeat (first | refine blk_drewN ?_ _ | refine blk_drew ?_ | refine blk_alloc ?_ _)); exact BK442.out)) : gb442 ≠ gb445))
                       have n7_ := Aside0.mk ((by rw [hg]; exact Nat.ne_of_gt (blk_lt (g := gb442) (o := .cells #[.int .i64 ((rd_T47 t435 x45_6).f0), .int .i64 ((rd_T47 t435 x45_6).f1), .int .i64 ((rd_T47 t435 x45_6).f2), .bool ((rd_T47 t435 x45_6).f3)] 47 (0, 0)) (by (with_reducible repeat (first | refine blk_drewN ?_ _ | refine blk_drew ?_ | refine blk_alloc ?_ _)); exact BK442.out)) : gb445 ≠ gb442))
                       clear HO_43
                       clear BK442
                       clear HB
                       have HO_43 := n0_
                       have BK442 := n1_
                       have HB := n2_
                       have BK445 := n3_
                       have GW445 := n4_
                       have GE445 := n5_
                       have NB442_445 := n6_
                       have NB445_442 := n7_
                       clear n0_ n1_ n2_ n3_ n4_ n5_ n6_ n7_
                       clear hb hbox hg
                       have hnb45 := NB445_442.out
                       have hnc45 := NB442_445.out
                       have hcz46_0 : w44.cell? ⟨gb445, 0, none⟩ = some (.int .i64 0) := (blk_cell BK445.out 0).trans rfl
                       have hcz46_1 : w44.cell? ⟨gb445, 1, none⟩ = some (.int .i64 0) := (blk_cell BK445.out 1).trans rfl
                       have hcz46_2 : w44.cell? ⟨gb445, 2, none⟩ = some (.int .i64 0) := (blk_cell BK445.out 2).trans rfl
                       have hcz46_3 : w44.cell? ⟨gb445, 3, none⟩ = some (.bool false) := (blk_cell BK445.out 3).trans rfl
                       have hfz46_0 := blk_frozen BK445.out 0
                       have hfz46_1 := blk_frozen BK445.out 1
                       have hfz46_2 := blk_frozen BK445.out 2
                       have hfz46_3 := blk_frozen BK445.out 3
                       go_wp2
                       go_loopg [88] kj41 (fun kq v88 w' => ∃ (x88_11 : Int) (x446001_11 : Int) (x446002_11 : Int) (x446003_11 : Bool), v88 = .int .i64 x88_11 ∧ Aside0 (testamurlaw42_DevicesOnce.l2 kq l0 a1 a2 x45_6 t435 (t435.length : Int) x45_6 l0 (l0.length : Int) x88_11 ((rd_T47 t435 x45_6).f0) ((rd_T47 t435 x45_6).f1) ((rd_T47 t435 x45_6).f2) ((rd_T47 t435 x45_6).f3) x45_6 x446001_11 x446002_11 x446003_11 = some r) ∧ Aside0 (kq ≤ kj41) ∧ Aside0 (Kd.R k47 47 w' w.heap.size (fun k_ => k_ ≠ gb442 ∧ k_ ≠ gb445) (.slice (some ad441) t435.length co19) t435) ∧ Aside0 (w'.heap[gb442]? = some (.cells #[.int .i64 ((rd_T47 t435 x45_6).f0), .int .i64 ((rd_T47 t435 x45_6).f1), .int .i64 ((rd_T47 t435 x45_6).f2), .bool ((rd_T47 t435 x45_6).f3)] 47 (0, 0))) ∧ Aside0 (w'.heap[gb445]? = some (.cells #[.int .i64 x45_6, .int .i64 x446001_11, .int .i64 x446002_11, .bool x446003_11] 47 (0, 0))) ∧ Aside0 (Below w.heap.size w w'))
                       case atStart => exact ⟨(0), (a2), (0), (false), (by first | rfl | (simp; done) | (simp [*]; done)), H', ⟨Nat.le_refl _⟩, ⟨by (with_reducible repeat (first | apply Kd.R_alloc | apply Kd.R_drewN | apply Kd.R_drew)); exact Kd.R_mono (Kd.R_far (p := ⟨gb445, 3, none⟩) (Kd.R_far (p := ⟨gb445, 2, none⟩) (Kd.R_far (p := ⟨gb445, 1, none⟩) (Kd.R_far (p := ⟨gb445, 0, none⟩) (Kd.R_mono HO_43.out (fun k_ hk => (⟨hk, hk.2⟩ : _ ∧ k_ ≠ gb445))) (fun _ hk => hk.2) (.int .i64 x45_6)) (fun _ hk => hk.2) (.int .i64 a2)) (fun _ hk => hk.2) (.int .i64 0)) (fun _ hk => hk.2) (.bool false)) (fun _ hk => ⟨hk.1.1, hk.1.2⟩)⟩, ⟨by (with_reducible repeat (first | refine blk_drewN ?_ _ | refine blk_drew ?_ | refine blk_alloc ?_ _)); refine blk_far ?_ NB442_445.out _; (with_reducible repeat (first | refine blk_drewN ?_ _ | refine blk_drew ?_ | refine blk_alloc ?_ _)); refine blk_far ?_ NB442_445.out _; (with_reducible repeat (first | refine blk_drewN ?_ _ | refine blk_drew ?_ | refine blk_alloc ?_ _)); refine blk_far ?_ NB442_445.out _; (with_reducible repeat (first | refine blk_drewN ?_ _ | refine blk_drew ?_ | refine blk_alloc ?_ _)); refine blk_far ?_ NB442_445.out _; (with_reducible repeat (first | refine blk_drewN ?_ _ | refine blk_drew ?_ | refine blk_alloc ?_ _)); exact BK442.out⟩, ⟨by (with_reducible repeat (first | refine blk_drewN ?_ _ | refine blk_drew ?_ | refine blk_alloc ?_ _)); refine blk_put (cs := #[.int .i64 x45_6, .int .i64 a2, .int .i64 0, .bool false]) ?_ 3 _ rfl; (with_reducible repeat (first | refine blk_drewN ?_ _ | refine blk_drew ?_ | refine blk_alloc ?_ _)); refine blk_put (cs := #[.int .i64 x45_6, .int .i64 a2, .int .i64 0, .bool false]) ?_ 2 _ rfl; (with_reducible repeat (first | refine blk_drewN ?_ _ | refine blk_drew ?_ | refine blk_alloc ?_ _)); refine blk_put (cs := #[.int .i64 x45_6, .int .i64 0, .int .i64 0, .bool false]) ?_ 1 _ rfl; (with_reducible repeat (first | refine blk_drewN ?_ _ | refine blk_drew ?_ | refine blk_alloc ?_ _)); refine blk_put (cs := #[.int .i64 0, .int .i64 0, .int .i64 0, .bool false]) ?_ 0 _ rfl; (with_reducible repeat (first | refine blk_drewN ?_ _ | refine blk_drew ?_ | refine blk_alloc ?_ _)); exact BK445.out⟩, ⟨by repeat (first | (with_reducible first | exact HB.out | apply below_alloc | apply pw_below_drewN | apply below_drew1 | refine below_set ?_ GE442.out | refine below_set ?_ GE445.out) | exact HB.out)⟩⟩
                       case round =>
                        clear H'
                        try clear c1
                        try clear c2
                        try clear p2
                        try clear c3
                        try clear c4
                        try clear p4
                        try clear q4
                        try clear hx4
                        try clear p6
                        try clear c7
                        try clear c8
                        try clear c10
                        try clear c12
                        try clear c16
                        try clear c16b0
                        try clear c16b1
                        try clear c20
                        try clear c20b0
                        try clear c20b1
                        try clear c22
                        try clear c22b0
                        try clear c23
                        try clear c23b0
                        try clear c24
                        try clear c24b0
                        try clear c25
                        try clear c26
                        try clear c29
                        try clear c29b0
                        try clear c31
                        try clear c31b0
                        try clear c31b1
                        try clear c32
                        try clear c34
                        try clear c37
                        try clear c37b0
                        try clear c37b1
                        try clear c38
                        try clear c38b0
                        try clear c43
                        try clear p44
                        try clear q44
                        try clear hx44
                        try clear c45
                        try clear hcz27_0
                        try clear hcz27_1
                        try clear hcz27_2
                        try clear hcz27_3
                        try clear hcz39_0
                        try clear hcz39_1
                        try clear hcz39_2
                        try clear hcz39_3
                        try clear hcz40_0
                        try clear hcz40_1
                        try clear hcz40_2
                        try clear hcz40_3
                        try clear hcz41_0
                        try clear hcz41_1
                        try clear hcz41_2
                        try clear hcz41_3
                        try clear hcz46_0
                        try clear hcz46_1
                        try clear hcz46_2
                        try clear hcz46_3
                        try clear hfz27_0
                        try clear hfz27_1
                        try clear hfz27_2
                        try clear hfz27_3
                        try clear hfz39_0
                        try clear hfz39_1
                        try clear hfz39_2
                        try clear hfz39_3
                        try clear hfz40_0
                        try clear hfz40_1
                        try clear hfz40_2
                        try clear hfz40_3
                        try clear hfz41_0
                        try clear hfz41_1
                        try clear hfz41_2
                        try clear hfz41_3
                        try clear hfz46_0
                        try clear hfz46_1
                        try clear hfz46_2
                        try clear hfz46_3
                        try clear hx441_0
                        try clear hx441_1
                        try clear hx441_2
                        try clear hx441_3
                        try clear p2
                        try clear p4
                        try clear p441
                        try clear p6
                        try clear q4
                        try clear q441
                        obtain ⟨x88_11, x446001_11, x446002_11, x446003_11, rfl, HA, HK11, HO_43, BK442, BK445, HB⟩ := hrel
                        cases gk with
                        | zero => exact absurd HA.out (by simp [testamurlaw42_DevicesOnce.l2])
                        | succ k11 =>
                         have H := HA.out
                         clear HA
                         simp only [testamurlaw42_DevicesOnce.l2] at H
                         have HC47 := Aside0.mk H
                         clear H
                         go_upto_if 89 with (fail)
                         go_cut [] (fun wc => ∃ (kq : Nat), Aside0 (testamurlaw42_DevicesOnce.j13 kq l0 a1 a2 x45_6 t435 (t435.length : Int) x45_6 l0 (l0.length : Int) x88_11 ((rd_T47 t435 x45_6).f0) ((rd_T47 t435 x45_6).f1) ((rd_T47 t435 x45_6).f2) ((rd_T47 t435 x45_6).f3) x45_6 x446001_11 x446002_11 x446003_11 = some r) ∧ Aside0 (kq ≤ k11) ∧ Aside0 (Kd.R k47 47 wc w.heap.size (fun k_ => k_ ≠ gb442 ∧ k_ ≠ gb445) (.slice (some ad441) t435.length co19) t435) ∧ Aside0 (wc.heap[gb442]? = some (.cells #[.int .i64 ((rd_T47 t435 x45_6).f0), .int .i64 ((rd_T47 t435 x45_6).f1), .int .i64 ((rd_T47 t435 x45_6).f2), .bool ((rd_T47 t435 x45_6).f3)] 47 (0, 0))) ∧ Aside0 (wc.heap[gb445]? = some (.cells #[.int .i64 x45_6, .int .i64 x446001_11, .int .i64 x446002_11, .bool x446003_11] 47 (0, 0))) ∧ Aside0 (Below w.heap.size w wc))
                         case first =>
                          have H := HC47.out
                          clear HC47
                          by_cases c48 : x88_11 < (l0.length : Int)
                          ·rw [if_pos c48] at H
                           have c48b0 : decide (x88_11 < (l0.length : Int)) = true := decide_eq_true c48
                           clear c48
                           (first | rw [c48b0] | (simp only [i64_w, i32_w]; rw [c48b0]) | skip)
                           have H' := Aside0.mk H
                           clear H
                           go_wp2
                           go_meet
                           case rel => exact ⟨_, H', ⟨by have := HJ4.out; have := HJ7.out; have := HJ10.out; have := HJ13.out; have := HJ17.out; have := HK6.out; have := HJ20.out; have := HJ24.out; have := HJ35.out; have := HJ41.out; have := HK11.out; first | omega | exact Nat.le_refl _⟩, ⟨by (with_reducible repeat (first | apply Kd.R_alloc | apply Kd.R_drewN | apply Kd.R_drew)); exact HO_43.out⟩, ⟨by (with_reducible repeat (first | refine blk_drewN ?_ _ | refine blk_drew ?_ | refine blk_alloc ?_ _)); exact BK442.out⟩, ⟨by (with_reducible repeat (first | refine blk_drewN ?_ _ | refine blk_drew ?_ | refine blk_alloc ?_ _)); exact BK445.out⟩, ⟨by repeat (first | (with_reducible first | exact HB.out | apply below_alloc | apply pw_below_drewN | apply below_drew1 | refine below_set ?_ GE442.out | refine below_set ?_ GE445.out) | exact HB.out)⟩⟩
                          ·rw [if_neg c48] at H
                           have c48b0 : decide (x88_11 < (l0.length : Int)) = false := decide_eq_false c48
                           clear c48
                           (first | rw [c48b0] | (simp only [i64_w, i32_w]; rw [c48b0]) | skip)
                           by_cases c49 : (!(x45_6 == ((rd_T47 t435 x45_6).f0)) || (!(x446001_11 == ((rd_T47 t435 x45_6).f1)) || (!(x446002_11 == ((rd_T47 t435 x45_6).f2)) || (!(x446003_11 == ((rd_T47 t435 x45_6).f3)))))) = true
                           ·rw [if_pos c49] at H
                            have c49b0 : (!(x45_6 == ((rd_T47 t435 x45_6).f0)) || (!(x446001_11 == ((rd_T47 t435 x45_6).f1)) || (!(x446002_11 == ((rd_T47 t435 x45_6).f2)) || (!(x446003_11 == ((rd_T47 t435 x45_6).f3)))))) = true := c49
                            clear c49
                            obtain rfl := Option.some.inj H
                            have hnb50 := NB445_442.out
                            have hnc50 := NB442_445.out
                            have hcz51_0 : wr.cell? ⟨gb445, 0, none⟩ = some (.int .i64 x45_6) := (blk_cell BK445.out 0).trans rfl
                            have hcz51_1 : wr.cell? ⟨gb445, 1, none⟩ = some (.int .i64 x446001_11) := (blk_cell BK445.out 1).trans rfl
                            have hcz51_2 : wr.cell? ⟨gb445, 2, none⟩ = some (.int .i64 x446002_11) := (blk_cell BK445.out 2).trans rfl
                            have hcz51_3 : wr.cell? ⟨gb445, 3, none⟩ = some (.bool x446003_11) := (blk_cell BK445.out 3).trans rfl
                            have hfz51_0 := blk_frozen BK445.out 0
                            have hfz51_1 := blk_frozen BK445.out 1
                            have hfz51_2 := blk_frozen BK445.out 2
                            have hfz51_3 := blk_frozen BK445.out 3
                            have hcz52_0 : wr.cell? ⟨gb442, 0, none⟩ = some (.int .i64 ((rd_T47 t435 x45_6).f0)) := (blk_cell BK442.out 0).trans rfl
                            have hcz52_1 : wr.cell? ⟨gb442, 1, none⟩ = some (.int .i64 ((rd_T47 t435 x45_6).f1)) := (blk_cell BK442.out 1).trans rfl
                            have hcz52_2 : wr.cell? ⟨gb442, 2, none⟩ = some (.int .i64 ((rd_T47 t435 x45_6).f2)) := (blk_cell BK442.out 2).trans rfl
                            have hcz52_3 : wr.cell? ⟨gb442, 3, none⟩ = some (.bool ((rd_T47 t435 x45_6).f3)) := (blk_cell BK442.out 3).trans rfl
                            have hfz52_0 := blk_frozen BK442.out 0
                            have hfz52_1 := blk_frozen BK442.out 1
                            have hfz52_2 := blk_frozen BK442.out 2
                            have hfz52_3 := blk_frozen BK442.out 3
                            go_wp2
                            go_ret
                            exact ⟨by first | rfl | (simp [errW_none, errW_some] <;> rfl) | (simp [*, errW_none, errW_some] <;> rfl), by repeat (first | (with_reducible first | exact HB.out | apply below_alloc | apply pw_below_drewN | apply below_drew1 | refine below_set ?_ GE442.out | refine below_set ?_ GE445.out) | exact HB.out)⟩
                           ·rw [if_neg c49] at H
                            have c49b0 : (!(x45_6 == ((rd_T47 t435 x45_6).f0)) || (!(x446001_11 == ((rd_T47 t435 x45_6).f1)) || (!(x446002_11 == ((rd_T47 t435 x45_6).f2)) || (!(x446003_11 == ((rd_T47 t435 x45_6).f3)))))) = false := by simpa using c49
                            clear c49
                            have H' := Aside0.mk H
                            clear H
                            have hnb53 := NB445_442.out
                            have hnc53 := NB442_445.out
                            have hcz54_0 : wr.cell? ⟨gb445, 0, none⟩ = some (.int .i64 x45_6) := (blk_cell BK445.out 0).trans rfl
                            have hcz54_1 : wr.cell? ⟨gb445, 1, none⟩ = some (.int .i64 x446001_11) := (blk_cell BK445.out 1).trans rfl
                            have hcz54_2 : wr.cell? ⟨gb445, 2, none⟩ = some (.int .i64 x446002_11) := (blk_cell BK445.out 2).trans rfl
                            have hcz54_3 : wr.cell? ⟨gb445, 3, none⟩ = some (.bool x446003_11) := (blk_cell BK445.out 3).trans rfl
                            have hfz54_0 := blk_frozen BK445.out 0
                            have hfz54_1 := blk_frozen BK445.out 1
                            have hfz54_2 := blk_frozen BK445.out 2
                            have hfz54_3 := blk_frozen BK445.out 3
                            have hcz55_0 : wr.cell? ⟨gb442, 0, none⟩ = some (.int .i64 ((rd_T47 t435 x45_6).f0)) := (blk_cell BK442.out 0).trans rfl
                            have hcz55_1 : wr.cell? ⟨gb442, 1, none⟩ = some (.int .i64 ((rd_T47 t435 x45_6).f1)) := (blk_cell BK442.out 1).trans rfl
                            have hcz55_2 : wr.cell? ⟨gb442, 2, none⟩ = some (.int .i64 ((rd_T47 t435 x45_6).f2)) := (blk_cell BK442.out 2).trans rfl
                            have hcz55_3 : wr.cell? ⟨gb442, 3, none⟩ = some (.bool ((rd_T47 t435 x45_6).f3)) := (blk_cell BK442.out 3).trans rfl
                            have hfz55_0 := blk_frozen BK442.out 0
                            have hfz55_1 := blk_frozen BK442.out 1
                            have hfz55_2 := blk_frozen BK442.out 2
                            have hfz55_3 := blk_frozen BK442.out 3
                            go_wp2
                            go_roundg k11
                            case measure => have := HJ4.out; have := HJ7.out; have := HJ10.out; have := HJ13.out; have := HJ17.out; have := HK6.out; have := HJ20.out; have := HJ24.out; have := HJ35.out; have := HJ41.out; have := HK11.out; omega
                            case rel => exact ⟨(wrap64 (x45_6 + 1)), (by first | rfl | (simp; done) | (simp [*]; done)), H', ⟨by have := HJ4.out; have := HJ7.out; have := HJ10.out; have := HJ13.out; have := HJ17.out; have := HK6.out; have := HJ20.out; have := HJ24.out; have := HJ35.out; have := HJ41.out; have := HK11.out; omega⟩, ⟨by (with_reducible repeat (first | apply Kd.R_alloc | apply Kd.R_drewN | apply Kd.R_drew)); exact Kd.R_mono HO_43.out (fun _ hk => trivial)⟩, ⟨by repeat (first | (with_reducible first | exact HB.out | apply below_alloc | apply pw_below_drewN | apply below_drew1 | refine below_set ?_ GE442.out | refine below_set ?_ GE445.out) | exact HB.out)⟩⟩
                         case rest =>
                          clear HC47
                          try clear c1
                          try clear c2
                          try clear p2
                          try clear c3
                          try clear c4
                          try clear p4
                          try clear q4
                          try clear hx4
                          try clear c5
                          try clear p6
                          try clear c7
                          try clear c8
                          try clear c10
                          try clear c12
                          try clear c16
                          try clear c16b0
                          try clear c16b1
                          try clear c20
                          try clear c20b0
                          try clear c20b1
                          try clear c22
                          try clear c22b0
                          try clear c23
                          try clear c23b0
                          try clear c24
                          try clear c24b0
                          try clear c25
                          try clear c26
                          try clear c29
                          try clear c29b0
                          try clear c31
                          try clear c31b0
                          try clear c31b1
                          try clear c32
                          try clear c34
                          try clear c37
                          try clear c37b0
                          try clear c37b1
                          try clear c38
                          try clear c38b0
                          try clear c43
                          try clear p44
                          try clear q44
                          try clear hx44
                          try clear c45
                          try clear c48
                          try clear c48b0
                          try clear c49
                          try clear c49b0
                          try clear c50
                          try clear c53
                          try clear hcz27_0
                          try clear hcz27_1
                          try clear hcz27_2
                          try clear hcz27_3
                          try clear hcz39_0
                          try clear hcz39_1
                          try clear hcz39_2
                          try clear hcz39_3
                          try clear hcz40_0
                          try clear hcz40_1
                          try clear hcz40_2
                          try clear hcz40_3
                          try clear hcz41_0
                          try clear hcz41_1
                          try clear hcz41_2
                          try clear hcz41_3
                          try clear hcz46_0
                          try clear hcz46_1
                          try clear hcz46_2
                          try clear hcz46_3
                          try clear hcz51_0
                          try clear hcz51_1
                          try clear hcz51_2
                          try clear hcz51_3
                          try clear hcz52_0
                          try clear hcz52_1
                          try clear hcz52_2
                          try clear hcz52_3
                          try clear hcz54_0
                          try clear hcz54_1
                          try clear hcz54_2
                          try clear hcz54_3
                          try clear hcz55_0
                          try clear hcz55_1
                          try clear hcz55_2
                          try clear hcz55_3
                          try clear hfz27_0
                          try clear hfz27_1
                          try clear hfz27_2
                          try clear hfz27_3
                          try clear hfz39_0
                          try clear hfz39_1
                          try clear hfz39_2
                          try clear hfz39_3
                          try clear hfz40_0
                          try clear hfz40_1
                          try clear hfz40_2
                          try clear hfz40_3
                          try clear hfz41_0
                          try clear hfz41_1
                          try clear hfz41_2
                          try clear hfz41_3
                          try clear hfz46_0
                          try clear hfz46_1
                          try clear hfz46_2
                          try clear hfz46_3
                          try clear hfz51_0
                          try clear hfz51_1
                          try clear hfz51_2
                          try clear hfz51_3
                          try clear hfz52_0
                          try clear hfz52_1
                          try clear hfz52_2
                          try clear hfz52_3
                          try clear hfz54_0
                          try clear hfz54_1
                          try clear hfz54_2
                          try clear hfz54_3
                          try clear hfz55_0
                          try clear hfz55_1
                          try clear hfz55_2
                          try clear hfz55_3
                          try clear hx441_0
                          try clear hx441_1
                          try clear hx441_2
                          try clear hx441_3
                          try clear p2
                          try clear p4
                          try clear p44
                          try clear p441
                          try clear p6
                          try clear q4
                          try clear q44
                          try clear q441
                          obtain ⟨kq, HA, HJ46, HO_43, BK442, BK445, HB⟩ := hcut
                          cases kq with
                          | zero => exact absurd HA.out (by simp [testamurlaw42_DevicesOnce.j13])
                          | succ kj46 =>
                           have H := HA.out
                           clear HA
                           simp only [testamurlaw42_DevicesOnce.j13] at H
                           by_cases c56 : 0 ≤ x88_11
                           ·rw [if_pos c56] at H
                            have c56b0 : decide (0 ≤ x88_11) = true := decide_eq_true c56
                            clear c56
                            by_cases c57 : x88_11 < (l0.length : Int)
                            ·rw [if_pos c57] at H
                             have c57b0 : decide (x88_11 < (l0.length : Int)) = true := decide_eq_true c57
                             clear c57
                             have HC58 := Aside0.mk H
                             clear H
                             have p448 : 0 ≤ (x88_11 : Int) := of_decide_eq_true (by first | (with_reducible assumption) | assumption)
                             have q448 : x88_11 < (l0.length : Int) := of_decide_eq_true (by first | (with_reducible assumption) | assumption)
                             obtain ⟨ad448, e448, hx448_0, hx448_1, hx448_2, hx448_3, hx448_4, hx448_5⟩ := at_T40 HR0.out x88_11 p448 q448
                             cases e448
                             replace hx448_0 := (HB.out.cell (World.block_lt_of_cell? w _ hx448_0)).trans hx448_0
                             replace hx448_1 := (HB.out.cell (World.block_lt_of_cell? w _ hx448_1)).trans hx448_1
                             replace hx448_2 := (HB.out.cell (World.block_lt_of_cell? w _ hx448_2)).trans hx448_2
                             replace hx448_3 := (HB.out.cell (World.block_lt_of_cell? w _ hx448_3)).trans hx448_3
                             replace hx448_4 := (HB.out.cell (World.block_lt_of_cell? w _ hx448_4)).trans hx448_4
                             replace hx448_5 := (HB.out.cell (World.block_lt_of_cell? w _ hx448_5)).trans hx448_5
                             replace p448 := eq_true p448
                             replace q448 := eq_true q448
                             go_upto_region 29 with (first | ((with_reducible refine gate_dst (N := 17) rfl ?_); refine box_event ?hg (N := 17) ?hd (cs := #[.int .i64 0, .int .i64 0, .int .i64 0, .int .i64 0, .int .i64 0, .int .i64 0]) (t := 40) ?hr ?_; (case hd => rfl); (case hg => rfl); (case hr => first | (go_simp; done) | (go_simp; rfl)); intro gb449 hg w59 hbox hb; have n0_ := Aside0.mk (Kd.R_below (by (with_reducible repeat (first | apply Kd.R_alloc | apply Kd.R_drewN | apply Kd.R_drew)); exact HO_43.out) hb); have n1_ := Aside0.mk (blk_below (g := gb442) (o := .cells #[.int .i64 ((rd_T47 t435 x45_6).f0), .int .i64 ((rd_T47 t435 x45_6).f1), .int .i64 ((rd_T47 t435 x45_6).f2), .bool ((rd_T47 t435 x45_6).f3)] 47 (0, 0)) (by (with_reducible repeat (first | refine blk_drewN ?_ _ | refine blk_drew ?_ | refine blk_alloc ?_ _)); exact BK442.out) hb); have n2_ := Aside0.mk (blk_below (g := gb445) (o := .cells #[.int .i64 x45_6, .int .i64 x446001_11, .int .i64 x446002_11, .bool x446003_11] 47 (0, 0)) (by (with_reducible repeat (first | refine blk_drewN ?_ _ | refine blk_drew ?_ | refine blk_alloc ?_ _)); exact BK445.out) hb); have n3_ := Aside0.mk (below_step (by repeat (first | (with_reducible first | exact HB.out | apply below_alloc | apply pw_below_drewN | apply below_drew1 | refine below_set ?_ GE442.out | refine below_set ?_ GE445.out) | exact HB.out)) hb); have n4_ := Aside0.mk (hbox); have n5_ := Aside0.mk ((by rw [hg]; exact (below_size (by repeat (first | (with_reducible first | exact HB.out | apply below_alloc | apply pw_below_drewN | apply below_drew1 | refine below_set ?_ GE442.out | refine below_set ?_ GE445.out) | exact HB.out))) : w.heap.size ≤ gb449)); have n6_ := Aside0.mk ((by rw [hg]; exact (below_size (by repeat (first | (with_reducible first | exact HB.out | apply below_alloc | apply pw_below_drewN | apply below_drew1 | refine below_set ?_ GE442.out | refine below_set ?_ GE445.out) | exact HB.out))) : w.heap.size ≤ gb449)); have n7_ := Aside0.mk ((by rw [hg]; exact Nat.ne_of_lt (blk_lt (g := gb442) (o := .cells #[.int .i64 ((rd_T47 t435 x45_6).f0), .int .i64 ((rd_T47 t435 x45_6).f1), .int .i64 ((rd_T47 t435 x45_6).f2), .bool ((rd_T47 t435 x45_6).f3)] 47 (0, 0)) (by (with_reducible repeat (first | refine blk_drewN ?_ _ | refine blk_drew ?_ | refine blk_alloc ?_ _)); exact BK442.out)) : gb442 ≠ gb449)); have n8_ := Aside0.mk ((by rw [hg]; exact Nat.ne_of_gt (blk_lt (g := gb442) (o := .cells #[.int .i64 ((rd_T47 t435 x45_6).f0), .int .i64 ((rd_T47 t435 x45_6).f1), .int .i64 ((rd_T47 t435 x45_6).f2), .bool ((rd_T47 t435 x45_6).f3)] 47 (0, 0)) (by (with_reducible repeat (first | refine blk_drewN ?_ _ | refine blk_drew ?_ | refine blk_alloc ?_ _)); exact BK442.out)) : gb449 ≠ gb442)); have n9_ := Aside0.mk ((by rw [hg]; exact Nat.ne_of_lt (blk_lt (g := gb445) (o := .cells #[.int .i64 x45_6, .int .i64 x446001_11, .int .i64 x446002_11, .bool x446003_11] 47 (0, 0)) (by (with_reducible repeat (first | refine blk_drewN ?_ _ | refine blk_drew ?_ | refine blk_alloc ?_ _)); exact BK445.out)) : gb445 ≠ gb449)); have n10_ := Aside0.mk ((by rw [hg]; exact Nat.ne_of_gt (blk_lt (g := gb445) (o := .cells #[.int .i64 x45_6, .int .i64 x446001_11, .int .i64 x446002_11, .bool x446003_11] 47 (0, 0)) (by (with_reducible repeat (first | refine blk_drewN ?_ _ | refine blk_drew ?_ | refine blk_alloc ?_ _)); exact BK445.out)) : gb449 ≠ gb445)); clear HO_43; clear BK442; clear BK445; clear HB; have HO_43 := n0_; have BK442 := n1_; have BK445 := n2_; have HB := n3_; have BK449 := n4_; have GW449 := n5_; have GE449 := n6_; have NB442_449 := n7_; have NB449_442 := n8_; have NB445_449 := n9_; have NB449_445 := n10_; clear n0_ n1_ n2_ n3_ n4_ n5_ n6_ n7_ n8_ n9_ n10_; clear hb hbox hg; have hnb60 := NB449_442.out; have hnc60 := NB442_449.out; have hnb61 := NB449_445.out; have hnc61 := NB445_449.out; have hcz62_0 : w59.cell? ⟨gb449, 0, none⟩ = some (.int .i64 0) := (blk_cell BK449.out 0).trans rfl; have hcz62_1 : w59.cell? ⟨gb449, 1, none⟩ = some (.int .i64 0) := (blk_cell BK449.out 1).trans rfl; have hcz62_2 : w59.cell? ⟨gb449, 2, none⟩ = some (.int .i64 0) := (blk_cell BK449.out 2).trans rfl; have hcz62_3 : w59.cell? ⟨gb449, 3, none⟩ = some (.int .i64 0) := (blk_cell BK449.out 3).trans rfl; have hcz62_4 : w59.cell? ⟨gb449, 4, none⟩ = some (.int .i64 0) := (blk_cell BK449.out 4).trans rfl; have hcz62_5 : w59.cell? ⟨gb449, 5, none⟩ = some (.int .i64 0) := (blk_cell BK449.out 5).trans rfl; have hfz62_0 := blk_frozen BK449.out 0; have hfz62_1 := blk_frozen BK449.out 1; have hfz62_2 := blk_frozen BK449.out 2; have hfz62_3 := blk_frozen BK449.out 3; have hfz62_4 := blk_frozen BK449.out 4; have hfz62_5 := blk_frozen BK449.out 5))
                             (try simp only [Act.put, List.setIfInBounds_toArray, List.set_cons_zero, List.set_cons_succ])
                             go_cut [114] (fun v114 wc => ∃ (kq : Nat) (x114_57 : Bool), v114 = .bool x114_57 ∧ Aside0 (testamurlaw42_DevicesOnce.j14 kq l0 a1 a2 x45_6 t435 (t435.length : Int) x45_6 l0 (l0.length : Int) x88_11 x114_57 ((rd_T47 t435 x45_6).f0) ((rd_T47 t435 x45_6).f1) ((rd_T47 t435 x45_6).f2) ((rd_T47 t435 x45_6).f3) x45_6 x446001_11 x446002_11 x446003_11 ((rd_T40 l0 x88_11).f0) ((rd_T40 l0 x88_11).f1) ((rd_T40 l0 x88_11).f2) ((rd_T40 l0 x88_11).f3) ((rd_T40 l0 x88_11).f4) ((rd_T40 l0 x88_11).f5) = some r) ∧ Aside0 (kq ≤ kj46) ∧ Aside0 (Kd.R k47 47 wc w.heap.size (fun k_ => k_ ≠ gb442 ∧ k_ ≠ gb445) (.slice (some ad441) t435.length co19) t435) ∧ Aside0 (wc.heap[gb442]? = some (.cells #[.int .i64 ((rd_T47 t435 x45_6).f0), .int .i64 ((rd_T47 t435 x45_6).f1), .int .i64 ((rd_T47 t435 x45_6).f2), .bool ((rd_T47 t435 x45_6).f3)] 47 (0, 0))) ∧ Aside0 (wc.heap[gb445]? = some (.cells #[.int .i64 x45_6, .int .i64 x446001_11, .int .i64 x446002_11, .bool x446003_11] 47 (0, 0))) ∧ Aside0 (wc.heap[gb449]? = some (.cells #[.int .i64 ((rd_T40 l0 x88_11).f0), .int .i64 ((rd_T40 l0 x88_11).f1), .int .i64 ((rd_T40 l0 x88_11).f2), .int .i64 ((rd_T40 l0 x88_11).f3), .int .i64 ((rd_T40 l0 x88_11).f4), .int .i64 ((rd_T40 l0 x88_11).f5)] 40 (0, 0))) ∧ Aside0 (Below w.heap.size w wc))
                             case first =>
                              have H := HC58.out
                              clear HC58
                              by_cases c63 : ((rd_T40 l0 x88_11).f3) = x45_6
                              ·rw [if_pos c63] at H
                               have c63b0 : (((rd_T40 l0 x88_11).f3) == x45_6) = true := beq_iff_eq.mpr c63
                               have c63b1 : (((rd_T40 l0 x88_11).f3) != x45_6) = false := bne_eq_false_iff_eq.mpr c63
                               clear c63
                               (first | rw [c63b0] | (simp only [i64_w, i32_w]; rw [c63b0]) | skip)
                               by_cases c64 : ((rd_T40 l0 x88_11).f5) = (wrap64 (x446002_11 + 1))
                               ·rw [if_pos c64] at H
                                have c64b0 : (((rd_T40 l0 x88_11).f5) == (wrap64 (x446002_11 + 1))) = true := beq_iff_eq.mpr c64
                                have c64b1 : (((rd_T40 l0 x88_11).f5) != (wrap64 (x446002_11 + 1))) = false := bne_eq_false_iff_eq.mpr c64
                                clear c64
                                by_cases c65 : ((rd_T40 l0 x88_11).f0) = x446001_11
                                ·rw [if_pos c65] at H
                                 have c65b0 : (((rd_T40 l0 x88_11).f0) == x446001_11) = true := beq_iff_eq.mpr c65
                                 have c65b1 : (((rd_T40 l0 x88_11).f0) != x446001_11) = false := bne_eq_false_iff_eq.mpr c65
                                 clear c65
                                 have H' := Aside0.mk H
                                 clear H
                                 have hnb66 := NB449_442.out
                                 have hnc66 := NB442_449.out
                                 have hnb67 := NB449_445.out
                                 have hnc67 := NB445_449.out
                                 have hcz68_0 : w59.cell? ⟨gb449, 0, none⟩ = some (.int .i64 0) := (blk_cell BK449.out 0).trans rfl
                                 have hcz68_1 : w59.cell? ⟨gb449, 1, none⟩ = some (.int .i64 0) := (blk_cell BK449.out 1).trans rfl
                                 have hcz68_2 : w59.cell? ⟨gb449, 2, none⟩ = some (.int .i64 0) := (blk_cell BK449.out 2).trans rfl
                                 have hcz68_3 : w59.cell? ⟨gb449, 3, none⟩ = some (.int .i64 0) := (blk_cell BK449.out 3).trans rfl
                                 have hcz68_4 : w59.cell? ⟨gb449, 4, none⟩ = some (.int .i64 0) := (blk_cell BK449.out 4).trans rfl
                                 have hcz68_5 : w59.cell? ⟨gb449, 5, none⟩ = some (.int .i64 0) := (blk_cell BK449.out 5).trans rfl
                                 have hfz68_0 := blk_frozen BK449.out 0
                                 have hfz68_1 := blk_frozen BK449.out 1
                                 have hfz68_2 := blk_frozen BK449.out 2
                                 have hfz68_3 := blk_frozen BK449.out 3
                                 have hfz68_4 := blk_frozen BK449.out 4
                                 have hfz68_5 := blk_frozen BK449.out 5
                                 have hnb69 := NB445_442.out
                                 have hnc69 := NB442_445.out
                                 have hcz70_0 : w59.cell? ⟨gb445, 0, none⟩ = some (.int .i64 x45_6) := (blk_cell BK445.out 0).trans rfl
                                 have hcz70_1 : w59.cell? ⟨gb445, 1, none⟩ = some (.int .i64 x446001_11) := (blk_cell BK445.out 1).trans rfl
                                 have hcz70_2 : w59.cell? ⟨gb445, 2, none⟩ = some (.int .i64 x446002_11) := (blk_cell BK445.out 2).trans rfl
                                 have hcz70_3 : w59.cell? ⟨gb445, 3, none⟩ = some (.bool x446003_11) := (blk_cell BK445.out 3).trans rfl
                                 have hfz70_0 := blk_frozen BK445.out 0
                                 have hfz70_1 := blk_frozen BK445.out 1
                                 have hfz70_2 := blk_frozen BK445.out 2
                                 have hfz70_3 := blk_frozen BK445.out 3
                                 go_wp2
                                 go_meet
                                 case rel => exact ⟨_, (x446003_11), (by first | rfl | (simp; done) | (simp [*]; done)), H', ⟨by have := HJ4.out; have := HJ7.out; have := HJ10.out; have := HJ13.out; have := HJ17.out; have := HK6.out; have := HJ20.out; have := HJ24.out; have := HJ35.out; have := HJ41.out; have := HK11.out; have := HJ46.out; first | omega | exact Nat.le_refl _⟩, ⟨by (with_reducible repeat (first | apply Kd.R_alloc | apply Kd.R_drewN | apply Kd.R_drew)); exact Kd.R_mono (Kd.R_far (p := ⟨gb449, 5, none⟩) (Kd.R_far (p := ⟨gb449, 4, none⟩) (Kd.R_far (p := ⟨gb449, 3, none⟩) (Kd.R_far (p := ⟨gb449, 2, none⟩) (Kd.R_far (p := ⟨gb449, 1, none⟩) (Kd.R_far (p := ⟨gb449, 0, none⟩) (Kd.R_types HO_43.out BK449.out (by decide)) (fun _ hk => hk.2) (.int .i64 ((rd_T40 l0 x88_11).f0))) (fun _ hk => hk.2) (.int .i64 ((rd_T40 l0 x88_11).f1))) (fun _ hk => hk.2) (.int .i64 ((rd_T40 l0 x88_11).f2))) (fun _ hk => hk.2) (.int .i64 ((rd_T40 l0 x88_11).f3))) (fun _ hk => hk.2) (.int .i64 ((rd_T40 l0 x88_11).f4))) (fun _ hk => hk.2) (.int .i64 ((rd_T40 l0 x88_11).f5))) (fun _ hk => ⟨hk.1.1, hk.1.2⟩)⟩, ⟨by (with_reducible repeat (first | refine blk_drewN ?_ _ | refine blk_drew ?_ | refine blk_alloc ?_ _)); refine blk_far ?_ NB442_449.out _; (with_reducible repeat (first | refine blk_drewN ?_ _ | refine blk_drew ?_ | refine blk_alloc ?_ _)); refine blk_far ?_ NB442_449.out _; (with_reducible repeat (first | refine blk_drewN ?_ _ | refine blk_drew ?_ | refine blk_alloc ?_ _)); refine blk_far ?_ NB442_449.out _; (with_reducible repeat (first | refine blk_drewN ?_ _ | refine blk_drew ?_ | refine blk_alloc ?_ _)); refine blk_far ?_ NB442_449.out _; (with_reducible repeat (first | refine blk_drewN ?_ _ | refine blk_drew ?_ | refine blk_alloc ?_ _)); refine blk_far ?_ NB442_449.out _; (with_reducible repeat (first | refine blk_drewN ?_ _ | refine blk_drew ?_ | refine blk_alloc ?_ _)); refine blk_far ?_ NB442_449.out _; (with_reducible repeat (first | refine blk_drewN ?_ _ | refine blk_drew ?_ | refine blk_alloc ?_ _)); exact BK442.out⟩, ⟨by (with_reducible repeat (first | refine blk_drewN ?_ _ | refine blk_drew ?_ | refine blk_alloc ?_ _)); refine blk_far ?_ NB445_449.out _; (with_reducible repeat (first | refine blk_drewN ?_ _ | refine blk_drew ?_ | refine blk_alloc ?_ _)); refine blk_far ?_ NB445_449.out _; (with_reducible repeat (first | refine blk_drewN ?_ _ | refine blk_drew ?_ | refine blk_alloc ?_ _)); refine blk_far ?_ NB445_449.out _; (with_reducible repeat (first | refine blk_drewN ?_ _ | refine blk_drew ?_ | refine blk_alloc ?_ _)); refine blk_far ?_ NB445_449.out _; (with_reducible repeat (first | refine blk_drewN ?_ _ | refine blk_drew ?_ | refine blk_alloc ?_ _)); refine blk_far ?_ NB445_449.out _; (with_reducible repeat (first | refine blk_drewN ?_ _ | refine blk_drew ?_ | refine blk_alloc ?_ _)); refine blk_far ?_ NB445_449.out _; (with_reducible repeat (first | refine blk_drewN ?_ _ | refine blk_drew ?_ | refine blk_alloc ?_ _)); exact BK445.out⟩, ⟨by (with_reducible repeat (first | refine blk_drewN ?_ _ | refine blk_drew ?_ | refine blk_alloc ?_ _)); refine blk_put (cs := #[.int .i64 ((rd_T40 l0 x88_11).f0), .int .i64 ((rd_T40 l0 x88_11).f1), .int .i64 ((rd_T40 l0 x88_11).f2), .int .i64 ((rd_T40 l0 x88_11).f3), .int .i64 ((rd_T40 l0 x88_11).f4), .int .i64 0]) ?_ 5 _ rfl; (with_reducible repeat (first | refine blk_drewN ?_ _ | refine blk_drew ?_ | refine blk_alloc ?_ _)); refine blk_put (cs := #[.int .i64 ((rd_T40 l0 x88_11).f0), .int .i64 ((rd_T40 l0 x88_11).f1), .int .i64 ((rd_T40 l0 x88_11).f2), .int .i64 ((rd_T40 l0 x88_11).f3), .int .i64 0, .int .i64 0]) ?_ 4 _ rfl; (with_reducible repeat (first | refine blk_drewN ?_ _ | refine blk_drew ?_ | refine blk_alloc ?_ _)); refine blk_put (cs := #[.int .i64 ((rd_T40 l0 x88_11).f0), .int .i64 ((rd_T40 l0 x88_11).f1), .int .i64 ((rd_T40 l0 x88_11).f2), .int .i64 0, .int .i64 0, .int .i64 0]) ?_ 3 _ rfl; (with_reducible repeat (first | refine blk_drewN ?_ _ | refine blk_drew ?_ | refine blk_alloc ?_ _)); refine blk_put (cs := #[.int .i64 ((rd_T40 l0 x88_11).f0), .int .i64 ((rd_T40 l0 x88_11).f1), .int .i64 0, .int .i64 0, .int .i64 0, .int .i64 0]) ?_ 2 _ rfl; (with_reducible repeat (first | refine blk_drewN ?_ _ | refine blk_drew ?_ | refine blk_alloc ?_ _)); refine blk_put (cs := #[.int .i64 ((rd_T40 l0 x88_11).f0), .int .i64 0, .int .i64 0, .int .i64 0, .int .i64 0, .int .i64 0]) ?_ 1 _ rfl; (with_reducible repeat (first | refine blk_drewN ?_ _ | refine blk_drew ?_ | refine blk_alloc ?_ _)); refine blk_put (cs := #[.int .i64 0, .int .i64 0, .int .i64 0, .int .i64 0, .int .i64 0, .int .i64 0]) ?_ 0 _ rfl; (with_reducible repeat (first | refine blk_drewN ?_ _ | refine blk_drew ?_ | refine blk_alloc ?_ _)); exact BK449.out⟩, ⟨by repeat (first | (with_reducible first | exact HB.out | apply below_alloc | apply pw_below_drewN | apply below_drew1 | refine below_set ?_ GE442.out | refine below_set ?_ GE445.out | refine below_set ?_ GE449.out) | exact HB.out)⟩⟩
                                ·rw [if_neg c65] at H
                                 have c65b0 : (((rd_T40 l0 x88_11).f0) == x446001_11) = false := beq_eq_false_iff_ne.mpr c65
                                 have c65b1 : (((rd_T40 l0 x88_11).f0) != x446001_11) = true := bne_iff_ne.mpr c65
                                 have H' := Aside0.mk H
                                 clear H
                                 have hnb71 := NB449_442.out
                                 have hnc71 := NB442_449.out
                                 have hnb72 := NB449_445.out
                                 have hnc72 := NB445_449.out
                                 have hcz73_0 : w59.cell? ⟨gb449, 0, none⟩ = some (.int .i64 0) := (blk_cell BK449.out 0).trans rfl
                                 have hcz73_1 : w59.cell? ⟨gb449, 1, none⟩ = some (.int .i64 0) := (blk_cell BK449.out 1).trans rfl
                                 have hcz73_2 : w59.cell? ⟨gb449, 2, none⟩ = some (.int .i64 0) := (blk_cell BK449.out 2).trans rfl
                                 have hcz73_3 : w59.cell? ⟨gb449, 3, none⟩ = some (.int .i64 0) := (blk_cell BK449.out 3).trans rfl
                                 have hcz73_4 : w59.cell? ⟨gb449, 4, none⟩ = some (.int .i64 0) := (blk_cell BK449.out 4).trans rfl
                                 have hcz73_5 : w59.cell? ⟨gb449, 5, none⟩ = some (.int .i64 0) := (blk_cell BK449.out 5).trans rfl
                                 have hfz73_0 := blk_frozen BK449.out 0
                                 have hfz73_1 := blk_frozen BK449.out 1
                                 have hfz73_2 := blk_frozen BK449.out 2
                                 have hfz73_3 := blk_frozen BK449.out 3
                                 have hfz73_4 := blk_frozen BK449.out 4
                                 have hfz73_5 := blk_frozen BK449.out 5
                                 have hnb74 := NB445_442.out
                                 have hnc74 := NB442_445.out
                                 have hcz75_0 : w59.cell? ⟨gb445, 0, none⟩ = some (.int .i64 x45_6) := (blk_cell BK445.out 0).trans rfl
                                 have hcz75_1 : w59.cell? ⟨gb445, 1, none⟩ = some (.int .i64 x446001_11) := (blk_cell BK445.out 1).trans rfl
                                 have hcz75_2 : w59.cell? ⟨gb445, 2, none⟩ = some (.int .i64 x446002_11) := (blk_cell BK445.out 2).trans rfl
                                 have hcz75_3 : w59.cell? ⟨gb445, 3, none⟩ = some (.bool x446003_11) := (blk_cell BK445.out 3).trans rfl
                                 have hfz75_0 := blk_frozen BK445.out 0
                                 have hfz75_1 := blk_frozen BK445.out 1
                                 have hfz75_2 := blk_frozen BK445.out 2
                                 have hfz75_3 := blk_frozen BK445.out 3
                                 go_wp2
                                 go_meet
                                 case rel => exact ⟨_, (true), (by first | rfl | (simp; done) | (simp [*]; done)), H', ⟨by have := HJ4.out; have := HJ7.out; have := HJ10.out; have := HJ13.out; have := HJ17.out; have := HK6.out; have := HJ20.out; have := HJ24.out; have := HJ35.out; have := HJ41.out; have := HK11.out; have := HJ46.out; first | omega | exact Nat.le_refl _⟩, ⟨by (with_reducible repeat (first | apply Kd.R_alloc | apply Kd.R_drewN | apply Kd.R_drew)); exact Kd.R_mono (Kd.R_far (p := ⟨gb449, 5, none⟩) (Kd.R_far (p := ⟨gb449, 4, none⟩) (Kd.R_far (p := ⟨gb449, 3, none⟩) (Kd.R_far (p := ⟨gb449, 2, none⟩) (Kd.R_far (p := ⟨gb449, 1, none⟩) (Kd.R_far (p := ⟨gb449, 0, none⟩) (Kd.R_types HO_43.out BK449.out (by decide)) (fun _ hk => hk.2) (.int .i64 ((rd_T40 l0 x88_11).f0))) (fun _ hk => hk.2) (.int .i64 ((rd_T40 l0 x88_11).f1))) (fun _ hk => hk.2) (.int .i64 ((rd_T40 l0 x88_11).f2))) (fun _ hk => hk.2) (.int .i64 ((rd_T40 l0 x88_11).f3))) (fun _ hk => hk.2) (.int .i64 ((rd_T40 l0 x88_11).f4))) (fun _ hk => hk.2) (.int .i64 ((rd_T40 l0 x88_11).f5))) (fun _ hk => ⟨hk.1.1, hk.1.2⟩)⟩, ⟨by (with_reducible repeat (first | refine blk_drewN ?_ _ | refine blk_drew ?_ | refine blk_alloc ?_ _)); refine blk_far ?_ NB442_449.out _; (with_reducible repeat (first | refine blk_drewN ?_ _ | refine blk_drew ?_ | refine blk_alloc ?_ _)); refine blk_far ?_ NB442_449.out _; (with_reducible repeat (first | refine blk_drewN ?_ _ | refine blk_drew ?_ | refine blk_alloc ?_ _)); refine blk_far ?_ NB442_449.out _; (with_reducible repeat (first | refine blk_drewN ?_ _ | refine blk_drew ?_ | refine blk_alloc ?_ _)); refine blk_far ?_ NB442_449.out _; (with_reducible repeat (first | refine blk_drewN ?_ _ | refine blk_drew ?_ | refine blk_alloc ?_ _)); refine blk_far ?_ NB442_449.out _; (with_reducible repeat (first | refine blk_drewN ?_ _ | refine blk_drew ?_ | refine blk_alloc ?_ _)); refine blk_far ?_ NB442_449.out _; (with_reducible repeat (first | refine blk_drewN ?_ _ | refine blk_drew ?_ | refine blk_alloc ?_ _)); exact BK442.out⟩, ⟨by (with_reducible repeat (first | refine blk_drewN ?_ _ | refine blk_drew ?_ | refine blk_alloc ?_ _)); refine blk_far ?_ NB445_449.out _; (with_reducible repeat (first | refine blk_drewN ?_ _ | refine blk_drew ?_ | refine blk_alloc ?_ _)); refine blk_far ?_ NB445_449.out _; (with_reducible repeat (first | refine blk_drewN ?_ _ | refine blk_drew ?_ | refine blk_alloc ?_ _)); refine blk_far ?_ NB445_449.out _; (with_reducible repeat (first | refine blk_drewN ?_ _ | refine blk_drew ?_ | refine blk_alloc ?_ _)); refine blk_far ?_ NB445_449.out _; (with_reducible repeat (first | refine blk_drewN ?_ _ | refine blk_drew ?_ | refine blk_alloc ?_ _)); refine blk_far ?_ NB445_449.out _; (with_reducible repeat (first | refine blk_drewN ?_ _ | refine blk_drew ?_ | refine blk_alloc ?_ _)); refine blk_far ?_ NB445_449.out _; (with_reducible repeat (first | refine blk_drewN ?_ _ | refine blk_drew ?_ | refine blk_alloc ?_ _)); exact BK445.out⟩, ⟨by (with_reducible repeat (first | refine blk_drewN ?_ _ | refine blk_drew ?_ | refine blk_alloc ?_ _)); refine blk_put (cs := #[.int .i64 ((rd_T40 l0 x88_11).f0), .int .i64 ((rd_T40 l0 x88_11).f1), .int .i64 ((rd_T40 l0 x88_11).f2), .int .i64 ((rd_T40 l0 x88_11).f3), .int .i64 ((rd_T40 l0 x88_11).f4), .int .i64 0]) ?_ 5 _ rfl; (with_reducible repeat (first | refine blk_drewN ?_ _ | refine blk_drew ?_ | refine blk_alloc ?_ _)); refine blk_put (cs := #[.int .i64 ((rd_T40 l0 x88_11).f0), .int .i64 ((rd_T40 l0 x88_11).f1), .int .i64 ((rd_T40 l0 x88_11).f2), .int .i64 ((rd_T40 l0 x88_11).f3), .int .i64 0, .int .i64 0]) ?_ 4 _ rfl; (with_reducible repeat (first | refine blk_drewN ?_ _ | refine blk_drew ?_ | refine blk_alloc ?_ _)); refine blk_put (cs := #[.int .i64 ((rd_T40 l0 x88_11).f0), .int .i64 ((rd_T40 l0 x88_11).f1), .int .i64 ((rd_T40 l0 x88_11).f2), .int .i64 0, .int .i64 0, .int .i64 0]) ?_ 3 _ rfl; (with_reducible repeat (first | refine blk_drewN ?_ _ | refine blk_drew ?_ | refine blk_alloc ?_ _)); refine blk_put (cs := #[.int .i64 ((rd_T40 l0 x88_11).f0), .int .i64 ((rd_T40 l0 x88_11).f1), .int .i64 0, .int .i64 0, .int .i64 0, .int .i64 0]) ?_ 2 _ rfl; (with_reducible repeat (first | refine blk_drewN ?_ _ | refine blk_drew ?_ | refine blk_alloc ?_ _)); refine blk_put (cs := #[.int .i64 ((rd_T40 l0 x88_11).f0), .int .i64 0, .int .i64 0, .int .i64 0, .int .i64 0, .int .i64 0]) ?_ 1 _ rfl; (with_reducible repeat (first | refine blk_drewN ?_ _ | refine blk_drew ?_ | refine blk_alloc ?_ _)); refine blk_put (cs := #[.int .i64 0, .int .i64 0, .int .i64 0, .int .i64 0, .int .i64 0, .int .i64 0]) ?_ 0 _ rfl; (with_reducible repeat (first | refine blk_drewN ?_ _ | refine blk_drew ?_ | refine blk_alloc ?_ _)); exact BK449.out⟩, ⟨by repeat (first | (with_reducible first | exact HB.out | apply below_alloc | apply pw_below_drewN | apply below_drew1 | refine below_set ?_ GE442.out | refine below_set ?_ GE445.out | refine below_set ?_ GE449.out) | exact HB.out)⟩⟩
                               ·rw [if_neg c64] at H
                                have c64b0 : (((rd_T40 l0 x88_11).f5) == (wrap64 (x446002_11 + 1))) = false := beq_eq_false_iff_ne.mpr c64
                                have c64b1 : (((rd_T40 l0 x88_11).f5) != (wrap64 (x446002_11 + 1))) = true := bne_iff_ne.mpr c64
                                have H' := Aside0.mk H
                                clear H
                                have hnb76 := NB449_442.out
                                have hnc76 := NB442_449.out
                                have hnb77 := NB449_445.out
                                have hnc77 := NB445_449.out
                                have hcz78_0 : w59.cell? ⟨gb449, 0, none⟩ = some (.int .i64 0) := (blk_cell BK449.out 0).trans rfl
                                have hcz78_1 : w59.cell? ⟨gb449, 1, none⟩ = some (.int .i64 0) := (blk_cell BK449.out 1).trans rfl
                                have hcz78_2 : w59.cell? ⟨gb449, 2, none⟩ = some (.int .i64 0) := (blk_cell BK449.out 2).trans rfl
                                have hcz78_3 : w59.cell? ⟨gb449, 3, none⟩ = some (.int .i64 0) := (blk_cell BK449.out 3).trans rfl
                                have hcz78_4 : w59.cell? ⟨gb449, 4, none⟩ = some (.int .i64 0) := (blk_cell BK449.out 4).trans rfl
                                have hcz78_5 : w59.cell? ⟨gb449, 5, none⟩ = some (.int .i64 0) := (blk_cell BK449.out 5).trans rfl
                                have hfz78_0 := blk_frozen BK449.out 0
                                have hfz78_1 := blk_frozen BK449.out 1
                                have hfz78_2 := blk_frozen BK449.out 2
                                have hfz78_3 := blk_frozen BK449.out 3
                                have hfz78_4 := blk_frozen BK449.out 4
                                have hfz78_5 := blk_frozen BK449.out 5
                                have hnb79 := NB445_442.out
                                have hnc79 := NB442_445.out
                                have hcz80_0 : w59.cell? ⟨gb445, 0, none⟩ = some (.int .i64 x45_6) := (blk_cell BK445.out 0).trans rfl
                                have hcz80_1 : w59.cell? ⟨gb445, 1, none⟩ = some (.int .i64 x446001_11) := (blk_cell BK445.out 1).trans rfl
                                have hcz80_2 : w59.cell? ⟨gb445, 2, none⟩ = some (.int .i64 x446002_11) := (blk_cell BK445.out 2).trans rfl
                                have hcz80_3 : w59.cell? ⟨gb445, 3, none⟩ = some (.bool x446003_11) := (blk_cell BK445.out 3).trans rfl
                                have hfz80_0 := blk_frozen BK445.out 0
                                have hfz80_1 := blk_frozen BK445.out 1
                                have hfz80_2 := blk_frozen BK445.out 2
                                have hfz80_3 := blk_frozen BK445.out 3
                                go_wp2
                                go_meet
                                case rel => exact ⟨_, (true), (by first | rfl | (simp; done) | (simp [*]; done)), H', ⟨by have := HJ4.out; have := HJ7.out; have := HJ10.out; have := HJ13.out; have := HJ17.out; have := HK6.out; have := HJ20.out; have := HJ24.out; have := HJ35.out; have := HJ41.out; have := HK11.out; have := HJ46.out; first | omega | exact Nat.le_refl _⟩, ⟨by (with_reducible repeat (first | apply Kd.R_alloc | apply Kd.R_drewN | apply Kd.R_drew)); exact Kd.R_mono (Kd.R_far (p := ⟨gb449, 5, none⟩) (Kd.R_far (p := ⟨gb449, 4, none⟩) (Kd.R_far (p := ⟨gb449, 3, none⟩) (Kd.R_far (p := ⟨gb449, 2, none⟩) (Kd.R_far (p := ⟨gb449, 1, none⟩) (Kd.R_far (p := ⟨gb449, 0, none⟩) (Kd.R_types HO_43.out BK449.out (by decide)) (fun _ hk => hk.2) (.int .i64 ((rd_T40 l0 x88_11).f0))) (fun _ hk => hk.2) (.int .i64 ((rd_T40 l0 x88_11).f1))) (fun _ hk => hk.2) (.int .i64 ((rd_T40 l0 x88_11).f2))) (fun _ hk => hk.2) (.int .i64 ((rd_T40 l0 x88_11).f3))) (fun _ hk => hk.2) (.int .i64 ((rd_T40 l0 x88_11).f4))) (fun _ hk => hk.2) (.int .i64 ((rd_T40 l0 x88_11).f5))) (fun _ hk => ⟨hk.1.1, hk.1.2⟩)⟩, ⟨by (with_reducible repeat (first | refine blk_drewN ?_ _ | refine blk_drew ?_ | refine blk_alloc ?_ _)); refine blk_far ?_ NB442_449.out _; (with_reducible repeat (first | refine blk_drewN ?_ _ | refine blk_drew ?_ | refine blk_alloc ?_ _)); refine blk_far ?_ NB442_449.out _; (with_reducible repeat (first | refine blk_drewN ?_ _ | refine blk_drew ?_ | refine blk_alloc ?_ _)); refine blk_far ?_ NB442_449.out _; (with_reducible repeat (first | refine blk_drewN ?_ _ | refine blk_drew ?_ | refine blk_alloc ?_ _)); refine blk_far ?_ NB442_449.out _; (with_reducible repeat (first | refine blk_drewN ?_ _ | refine blk_drew ?_ | refine blk_alloc ?_ _)); refine blk_far ?_ NB442_449.out _; (with_reducible repeat (first | refine blk_drewN ?_ _ | refine blk_drew ?_ | refine blk_alloc ?_ _)); refine blk_far ?_ NB442_449.out _; (with_reducible repeat (first | refine blk_drewN ?_ _ | refine blk_drew ?_ | refine blk_alloc ?_ _)); exact BK442.out⟩, ⟨by (with_reducible repeat (first | refine blk_drewN ?_ _ | refine blk_drew ?_ | refine blk_alloc ?_ _)); refine blk_far ?_ NB445_449.out _; (with_reducible repeat (first | refine blk_drewN ?_ _ | refine blk_drew ?_ | refine blk_alloc ?_ _)); refine blk_far ?_ NB445_449.out _; (with_reducible repeat (first | refine blk_drewN ?_ _ | refine blk_drew ?_ | refine blk_alloc ?_ _)); refine blk_far ?_ NB445_449.out _; (with_reducible repeat (first | refine blk_drewN ?_ _ | refine blk_drew ?_ | refine blk_alloc ?_ _)); refine blk_far ?_ NB445_449.out _; (with_reducible repeat (first | refine blk_drewN ?_ _ | refine blk_drew ?_ | refine blk_alloc ?_ _)); refine blk_far ?_ NB445_449.out _; (with_reducible repeat (first | refine blk_drewN ?_ _ | refine blk_drew ?_ | refine blk_alloc ?_ _)); refine blk_far ?_ NB445_449.out _; (with_reducible repeat (first | refine blk_drewN ?_ _ | refine blk_drew ?_ | refine blk_alloc ?_ _)); exact BK445.out⟩, ⟨by (with_reducible repeat (first | refine blk_drewN ?_ _ | refine blk_drew ?_ | refine blk_alloc ?_ _)); refine blk_put (cs := #[.int .i64 ((rd_T40 l0 x88_11).f0), .int .i64 ((rd_T40 l0 x88_11).f1), .int .i64 ((rd_T40 l0 x88_11).f2), .int .i64 ((rd_T40 l0 x88_11).f3), .int .i64 ((rd_T40 l0 x88_11).f4), .int .i64 0]) ?_ 5 _ rfl; (with_reducible repeat (first | refine blk_drewN ?_ _ | refine blk_drew ?_ | refine blk_alloc ?_ _)); refine blk_put (cs := #[.int .i64 ((rd_T40 l0 x88_11).f0), .int .i64 ((rd_T40 l0 x88_11).f1), .int .i64 ((rd_T40 l0 x88_11).f2), .int .i64 ((rd_T40 l0 x88_11).f3), .int .i64 0, .int .i64 0]) ?_ 4 _ rfl; (with_reducible repeat (first | refine blk_drewN ?_ _ | refine blk_drew ?_ | refine blk_alloc ?_ _)); refine blk_put (cs := #[.int .i64 ((rd_T40 l0 x88_11).f0), .int .i64 ((rd_T40 l0 x88_11).f1), .int .i64 ((rd_T40 l0 x88_11).f2), .int .i64 0, .int .i64 0, .int .i64 0]) ?_ 3 _ rfl; (with_reducible repeat (first | refine blk_drewN ?_ _ | refine blk_drew ?_ | refine blk_alloc ?_ _)); refine blk_put (cs := #[.int .i64 ((rd_T40 l0 x88_11).f0), .int .i64 ((rd_T40 l0 x88_11).f1), .int .i64 0, .int .i64 0, .int .i64 0, .int .i64 0]) ?_ 2 _ rfl; (with_reducible repeat (first | refine blk_drewN ?_ _ | refine blk_drew ?_ | refine blk_alloc ?_ _)); refine blk_put (cs := #[.int .i64 ((rd_T40 l0 x88_11).f0), .int .i64 0, .int .i64 0, .int .i64 0, .int .i64 0, .int .i64 0]) ?_ 1 _ rfl; (with_reducible repeat (first | refine blk_drewN ?_ _ | refine blk_drew ?_ | refine blk_alloc ?_ _)); refine blk_put (cs := #[.int .i64 0, .int .i64 0, .int .i64 0, .int .i64 0, .int .i64 0, .int .i64 0]) ?_ 0 _ rfl; (with_reducible repeat (first | refine blk_drewN ?_ _ | refine blk_drew ?_ | refine blk_alloc ?_ _)); exact BK449.out⟩, ⟨by repeat (first | (with_reducible first | exact HB.out | apply below_alloc | apply pw_below_drewN | apply below_drew1 | refine below_set ?_ GE442.out | refine below_set ?_ GE445.out | refine below_set ?_ GE449.out) | exact HB.out)⟩⟩
                              ·rw [if_neg c63] at H
                               have c63b0 : (((rd_T40 l0 x88_11).f3) == x45_6) = false := beq_eq_false_iff_ne.mpr c63
                               have c63b1 : (((rd_T40 l0 x88_11).f3) != x45_6) = true := bne_iff_ne.mpr c63
                               (first | rw [c63b0] | (simp only [i64_w, i32_w]; rw [c63b0]) | skip)
                               have H' := Aside0.mk H
                               clear H
                               have hnb81 := NB449_442.out
                               have hnc81 := NB442_449.out
                               have hnb82 := NB449_445.out
                               have hnc82 := NB445_449.out
                               have hcz83_0 : w59.cell? ⟨gb449, 0, none⟩ = some (.int .i64 0) := (blk_cell BK449.out 0).trans rfl
                               have hcz83_1 : w59.cell? ⟨gb449, 1, none⟩ = some (.int .i64 0) := (blk_cell BK449.out 1).trans rfl
                               have hcz83_2 : w59.cell? ⟨gb449, 2, none⟩ = some (.int .i64 0) := (blk_cell BK449.out 2).trans rfl
                               have hcz83_3 : w59.cell? ⟨gb449, 3, none⟩ = some (.int .i64 0) := (blk_cell BK449.out 3).trans rfl
                               have hcz83_4 : w59.cell? ⟨gb449, 4, none⟩ = some (.int .i64 0) := (blk_cell BK449.out 4).trans rfl
                               have hcz83_5 : w59.cell? ⟨gb449, 5, none⟩ = some (.int .i64 0) := (blk_cell BK449.out 5).trans rfl
                               have hfz83_0 := blk_frozen BK449.out 0
                               have hfz83_1 := blk_frozen BK449.out 1
                               have hfz83_2 := blk_frozen BK449.out 2
                               have hfz83_3 := blk_frozen BK449.out 3
                               have hfz83_4 := blk_frozen BK449.out 4
                               have hfz83_5 := blk_frozen BK449.out 5
                               go_wp2
                               go_meet
                               case rel => exact ⟨_, (true), (by first | rfl | (simp; done) | (simp [*]; done)), H', ⟨by have := HJ4.out; have := HJ7.out; have := HJ10.out; have := HJ13.out; have := HJ17.out; have := HK6.out; have := HJ20.out; have := HJ24.out; have := HJ35.out; have := HJ41.out; have := HK11.out; have := HJ46.out; first | omega | exact Nat.le_refl _⟩, ⟨by (with_reducible repeat (first | apply Kd.R_alloc | apply Kd.R_drewN | apply Kd.R_drew)); exact Kd.R_mono (Kd.R_far (p := ⟨gb449, 5, none⟩) (Kd.R_far (p := ⟨gb449, 4, none⟩) (Kd.R_far (p := ⟨gb449, 3, none⟩) (Kd.R_far (p := ⟨gb449, 2, none⟩) (Kd.R_far (p := ⟨gb449, 1, none⟩) (Kd.R_far (p := ⟨gb449, 0, none⟩) (Kd.R_types HO_43.out BK449.out (by decide)) (fun _ hk => hk.2) (.int .i64 ((rd_T40 l0 x88_11).f0))) (fun _ hk => hk.2) (.int .i64 ((rd_T40 l0 x88_11).f1))) (fun _ hk => hk.2) (.int .i64 ((rd_T40 l0 x88_11).f2))) (fun _ hk => hk.2) (.int .i64 ((rd_T40 l0 x88_11).f3))) (fun _ hk => hk.2) (.int .i64 ((rd_T40 l0 x88_11).f4))) (fun _ hk => hk.2) (.int .i64 ((rd_T40 l0 x88_11).f5))) (fun _ hk => ⟨hk.1.1, hk.1.2⟩)⟩, ⟨by (with_reducible repeat (first | refine blk_drewN ?_ _ | refine blk_drew ?_ | refine blk_alloc ?_ _)); refine blk_far ?_ NB442_449.out _; (with_reducible repeat (first | refine blk_drewN ?_ _ | refine blk_drew ?_ | refine blk_alloc ?_ _)); refine blk_far ?_ NB442_449.out _; (with_reducible repeat (first | refine blk_drewN ?_ _ | refine blk_drew ?_ | refine blk_alloc ?_ _)); refine blk_far ?_ NB442_449.out _; (with_reducible repeat (first | refine blk_drewN ?_ _ | refine blk_drew ?_ | refine blk_alloc ?_ _)); refine blk_far ?_ NB442_449.out _; (with_reducible repeat (first | refine blk_drewN ?_ _ | refine blk_drew ?_ | refine blk_alloc ?_ _)); refine blk_far ?_ NB442_449.out _; (with_reducible repeat (first | refine blk_drewN ?_ _ | refine blk_drew ?_ | refine blk_alloc ?_ _)); refine blk_far ?_ NB442_449.out _; (with_reducible repeat (first | refine blk_drewN ?_ _ | refine blk_drew ?_ | refine blk_alloc ?_ _)); exact BK442.out⟩, ⟨by (with_reducible repeat (first | refine blk_drewN ?_ _ | refine blk_drew ?_ | refine blk_alloc ?_ _)); refine blk_far ?_ NB445_449.out _; (with_reducible repeat (first | refine blk_drewN ?_ _ | refine blk_drew ?_ | refine blk_alloc ?_ _)); refine blk_far ?_ NB445_449.out _; (with_reducible repeat (first | refine blk_drewN ?_ _ | refine blk_drew ?_ | refine blk_alloc ?_ _)); refine blk_far ?_ NB445_449.out _; (with_reducible repeat (first | refine blk_drewN ?_ _ | refine blk_drew ?_ | refine blk_alloc ?_ _)); refine blk_far ?_ NB445_449.out _; (with_reducible repeat (first | refine blk_drewN ?_ _ | refine blk_drew ?_ | refine blk_alloc ?_ _)); refine blk_far ?_ NB445_449.out _; (with_reducible repeat (first | refine blk_drewN ?_ _ | refine blk_drew ?_ | refine blk_alloc ?_ _)); refine blk_far ?_ NB445_449.out _; (with_reducible repeat (first | refine blk_drewN ?_ _ | refine blk_drew ?_ | refine blk_alloc ?_ _)); exact BK445.out⟩, ⟨by (with_reducible repeat (first | refine blk_drewN ?_ _ | refine blk_drew ?_ | refine blk_alloc ?_ _)); refine blk_put (cs := #[.int .i64 ((rd_T40 l0 x88_11).f0), .int .i64 ((rd_T40 l0 x88_11).f1), .int .i64 ((rd_T40 l0 x88_11).f2), .int .i64 ((rd_T40 l0 x88_11).f3), .int .i64 ((rd_T40 l0 x88_11).f4), .int .i64 0]) ?_ 5 _ rfl; (with_reducible repeat (first | refine blk_drewN ?_ _ | refine blk_drew ?_ | refine blk_alloc ?_ _)); refine blk_put (cs := #[.int .i64 ((rd_T40 l0 x88_11).f0), .int .i64 ((rd_T40 l0 x88_11).f1), .int .i64 ((rd_T40 l0 x88_11).f2), .int .i64 ((rd_T40 l0 x88_11).f3), .int .i64 0, .int .i64 0]) ?_ 4 _ rfl; (with_reducible repeat (first | refine blk_drewN ?_ _ | refine blk_drew ?_ | refine blk_alloc ?_ _)); refine blk_put (cs := #[.int .i64 ((rd_T40 l0 x88_11).f0), .int .i64 ((rd_T40 l0 x88_11).f1), .int .i64 ((rd_T40 l0 x88_11).f2), .int .i64 0, .int .i64 0, .int .i64 0]) ?_ 3 _ rfl; (with_reducible repeat (first | refine blk_drewN ?_ _ | refine blk_drew ?_ | refine blk_alloc ?_ _)); refine blk_put (cs := #[.int .i64 ((rd_T40 l0 x88_11).f0), .int .i64 ((rd_T40 l0 x88_11).f1), .int .i64 0, .int .i64 0, .int .i64 0, .int .i64 0]) ?_ 2 _ rfl; (with_reducible repeat (first | refine blk_drewN ?_ _ | refine blk_drew ?_ | refine blk_alloc ?_ _)); refine blk_put (cs := #[.int .i64 ((rd_T40 l0 x88_11).f0), .int .i64 0, .int .i64 0, .int .i64 0, .int .i64 0, .int .i64 0]) ?_ 1 _ rfl; (with_reducible repeat (first | refine blk_drewN ?_ _ | refine blk_drew ?_ | refine blk_alloc ?_ _)); refine blk_put (cs := #[.int .i64 0, .int .i64 0, .int .i64 0, .int .i64 0, .int .i64 0, .int .i64 0]) ?_ 0 _ rfl; (with_reducible repeat (first | refine blk_drewN ?_ _ | refine blk_drew ?_ | refine blk_alloc ?_ _)); exact BK449.out⟩, ⟨by repeat (first | (with_reducible first | exact HB.out | apply below_alloc | apply pw_below_drewN | apply below_drew1 | refine below_set ?_ GE442.out | refine below_set ?_ GE445.out | refine below_set ?_ GE449.out) | exact HB.out)⟩⟩
                             case rest =>
                              clear HC58
                              try clear c1
                              try clear c2
                              try clear p2
                              try clear c3
                              try clear c4
                              try clear p4
                              try clear q4
                              try clear hx4
                              try clear c5
                              try clear c6
                              try clear p6
                              try clear c7
                              try clear c8
                              try clear c10
                              try clear c12
                              try clear c16
                              try clear c16b0
                              try clear c16b1
                              try clear c20
                              try clear c20b0
                              try clear c20b1
                              try clear c22
                              try clear c22b0
                              try clear c23
                              try clear c23b0
                              try clear c24
                              try clear c24b0
                              try clear c25
                              try clear c26
                              try clear c29
                              try clear c29b0
                              try clear c31
                              try clear c31b0
                              try clear c31b1
                              try clear c32
                              try clear c34
                              try clear c37
                              try clear c37b0
                              try clear c37b1
                              try clear c38
                              try clear c38b0
                              try clear c43
                              try clear p44
                              try clear q44
                              try clear hx44
                              try clear c45
                              try clear c48
                              try clear c48b0
                              try clear c49
                              try clear c49b0
                              try clear c50
                              try clear c53
                              try clear c56
                              try clear c56b0
                              try clear c57
                              try clear c57b0
                              try clear c60
                              try clear c61
                              try clear c63
                              try clear c63b0
                              try clear c63b1
                              try clear c64
                              try clear c64b0
                              try clear c64b1
                              try clear p64
                              try clear c65
                              try clear c65b0
                              try clear c65b1
                              try clear c66
                              try clear c67
                              try clear c69
                              try clear c71
                              try clear c72
                              try clear c74
                              try clear c76
                              try clear c77
                              try clear c79
                              try clear c81
                              try clear c82
                              try clear hcz27_0
                              try clear hcz27_1
                              try clear hcz27_2
                              try clear hcz27_3
                              try clear hcz39_0
                              try clear hcz39_1
                              try clear hcz39_2
                              try clear hcz39_3
                              try clear hcz40_0
                              try clear hcz40_1
                              try clear hcz40_2
                              try clear hcz40_3
                              try clear hcz41_0
                              try clear hcz41_1
                              try clear hcz41_2
                              try clear hcz41_3
                              try clear hcz46_0
                              try clear hcz46_1
                              try clear hcz46_2
                              try clear hcz46_3
                              try clear hcz51_0
                              try clear hcz51_1
                              try clear hcz51_2
                              try clear hcz51_3
                              try clear hcz52_0
                              try clear hcz52_1
                              try clear hcz52_2
                              try clear hcz52_3
                              try clear hcz54_0
                              try clear hcz54_1
                              try clear hcz54_2
                              try clear hcz54_3
                              try clear hcz55_0
                              try clear hcz55_1
                              try clear hcz55_2
                              try clear hcz55_3
                              try clear hcz62_0
                              try clear hcz62_1
                              try clear hcz62_2
                              try clear hcz62_3
                              try clear hcz62_4
                              try clear hcz62_5
                              try clear hcz68_0
                              try clear hcz68_1
                              try clear hcz68_2
                              try clear hcz68_3
                              try clear hcz68_4
                              try clear hcz68_5
                              try clear hcz70_0
                              try clear hcz70_1
                              try clear hcz70_2
                              try clear hcz70_3
                              try clear hcz73_0
                              try clear hcz73_1
                              try clear hcz73_2
                              try clear hcz73_3
                              try clear hcz73_4
                              try clear hcz73_5
                              try clear hcz75_0
                              try clear hcz75_1
                              try clear hcz75_2
                              try clear hcz75_3
                              try clear hcz78_0
                              try clear hcz78_1
                              try clear hcz78_2
                              try clear hcz78_3
                              try clear hcz78_4
                              try clear hcz78_5
                              try clear hcz80_0
                              try clear hcz80_1
                              try clear hcz80_2
                              try clear hcz80_3
                              try clear hcz83_0
                              try clear hcz83_1
                              try clear hcz83_2
                              try clear hcz83_3
                              try clear hcz83_4
                              try clear hcz83_5
                              try clear hfz27_0
                              try clear hfz27_1
                              try clear hfz27_2
                              try clear hfz27_3
                              try clear hfz39_0
                              try clear hfz39_1
                              try clear hfz39_2
                              try clear hfz39_3
                              try clear hfz40_0
                              try clear hfz40_1
                              try clear hfz40_2
                              try clear hfz40_3
                              try clear hfz41_0
                              try clear hfz41_1
                              try clear hfz41_2
                              try clear hfz41_3
                              try clear hfz46_0
                              try clear hfz46_1
                              try clear hfz46_2
                              try clear hfz46_3
                              try clear hfz51_0
                              try clear hfz51_1
                              try clear hfz51_2
                              try clear hfz51_3
                              try clear hfz52_0
                              try clear hfz52_1
                              try clear hfz52_2
                              try clear hfz52_3
                              try clear hfz54_0
                              try clear hfz54_1
                              try clear hfz54_2
                              try clear hfz54_3
                              try clear hfz55_0
                              try clear hfz55_1
                              try clear hfz55_2
                              try clear hfz55_3
                              try clear hfz62_0
                              try clear hfz62_1
                              try clear hfz62_2
                              try clear hfz62_3
                              try clear hfz62_4
                              try clear hfz62_5
                              try clear hfz68_0
                              try clear hfz68_1
                              try clear hfz68_2
                              try clear hfz68_3
                              try clear hfz68_4
                              try clear hfz68_5
                              try clear hfz70_0
                              try clear hfz70_1
                              try clear hfz70_2
                              try clear hfz70_3
                              try clear hfz73_0
                              try clear hfz73_1
                              try clear hfz73_2
                              try clear hfz73_3
                              try clear hfz73_4
                              try clear hfz73_5
                              try clear hfz75_0
                              try clear hfz75_1
                              try clear hfz75_2
                              try clear hfz75_3
                              try clear hfz78_0
                              try clear hfz78_1
                              try clear hfz78_2
                              try clear hfz78_3
                              try clear hfz78_4
                              try clear hfz78_5
                              try clear hfz80_0
                              try clear hfz80_1
                              try clear hfz80_2
                              try clear hfz80_3
                              try clear hfz83_0
                              try clear hfz83_1
                              try clear hfz83_2
                              try clear hfz83_3
                              try clear hfz83_4
                              try clear hfz83_5
                              try clear hx441_0
                              try clear hx441_1
                              try clear hx441_2
                              try clear hx441_3
                              try clear hx448_0
                              try clear hx448_1
                              try clear hx448_2
                              try clear hx448_3
                              try clear hx448_4
                              try clear hx448_5
                              try clear p2
                              try clear p4
                              try clear p44
                              try clear p441
                              try clear p448
                              try clear p6
                              try clear q4
                              try clear q44
                              try clear q441
                              try clear q448
                              obtain ⟨kq, x114_57, rfl, HA, HJ57, HO_43, BK442, BK445, BK449, HB⟩ := hcut
                              cases kq with
                              | zero => exact absurd HA.out (by simp [testamurlaw42_DevicesOnce.j14])
                              | succ kj57 =>
                               have H := HA.out
                               clear HA
                               simp only [testamurlaw42_DevicesOnce.j14] at H
                               by_cases c84 : x114_57 = true
                               ·subst c84
                                have H1 : (testamurlaw42_DevicesOnce.l2 kj57 l0 a1 a2 x45_6 t435 (t435.length : Int) x45_6 l0 (l0.length : Int) (wrap64 (x88_11 + 1)) ((rd_T47 t435 x45_6).f0) ((rd_T47 t435 x45_6).f1) ((rd_T47 t435 x45_6).f2) ((rd_T47 t435 x45_6).f3) x45_6 x446001_11 x446002_11 x446003_11) = some r := by rw [if_pos rfl] at H; exact H
                                clear H
                                have H := H1
                                clear H1
                                have H' := Aside0.mk H
                                clear H
                                go_wp2
                                go_roundg kj57
                                case measure => have := HJ4.out; have := HJ7.out; have := HJ10.out; have := HJ13.out; have := HJ17.out; have := HK6.out; have := HJ20.out; have := HJ24.out; have := HJ35.out; have := HJ41.out; have := HK11.out; have := HJ46.out; have := HJ57.out; omega
                                case rel => exact ⟨(wrap64 (x88_11 + 1)), (x446001_11), (x446002_11), (x446003_11), (by first | rfl | (simp; done) | (simp [*]; done)), H', ⟨by have := HJ4.out; have := HJ7.out; have := HJ10.out; have := HJ13.out; have := HJ17.out; have := HK6.out; have := HJ20.out; have := HJ24.out; have := HJ35.out; have := HJ41.out; have := HK11.out; have := HJ46.out; have := HJ57.out; omega⟩, ⟨by (with_reducible repeat (first | apply Kd.R_alloc | apply Kd.R_drewN | apply Kd.R_drew)); exact HO_43.out⟩, ⟨by (with_reducible repeat (first | refine blk_drewN ?_ _ | refine blk_drew ?_ | refine blk_alloc ?_ _)); exact BK442.out⟩, ⟨by (with_reducible repeat (first | refine blk_drewN ?_ _ | refine blk_drew ?_ | refine blk_alloc ?_ _)); exact BK445.out⟩, ⟨by repeat (first | (with_reducible first | exact HB.out | apply below_alloc | apply pw_below_drewN | apply below_drew1 | refine below_set ?_ GE442.out | refine below_set ?_ GE445.out | refine below_set ?_ GE449.out) | exact HB.out)⟩⟩
                               ·replace c84 := Bool.eq_false_iff.mpr c84
                                subst c84
                                have H1 : (if ((rd_T40 l0 x88_11).f2) = 2 then (testamurlaw42_DevicesOnce.l2 kj57 l0 a1 a2 x45_6 t435 (t435.length : Int) x45_6 l0 (l0.length : Int) (wrap64 (x88_11 + 1)) ((rd_T47 t435 x45_6).f0) ((rd_T47 t435 x45_6).f1) ((rd_T47 t435 x45_6).f2) ((rd_T47 t435 x45_6).f3) x45_6 x446001_11 ((rd_T40 l0 x88_11).f5) true) else (testamurlaw42_DevicesOnce.l2 kj57 l0 a1 a2 x45_6 t435 (t435.length : Int) x45_6 l0 (l0.length : Int) (wrap64 (x88_11 + 1)) ((rd_T47 t435 x45_6).f0) ((rd_T47 t435 x45_6).f1) ((rd_T47 t435 x45_6).f2) ((rd_T47 t435 x45_6).f3) x45_6 ((rd_T40 l0 x88_11).f4) ((rd_T40 l0 x88_11).f5) x446003_11)) = some r := by rw [if_neg (show ¬ (false = true) by decide)] at H; exact H
                                clear H
                                have H := H1
                                clear H1
                                by_cases c85 : ((rd_T40 l0 x88_11).f2) = 2
                                ·rw [if_pos c85] at H
                                 have c85b0 : (((rd_T40 l0 x88_11).f2) == 2) = true := beq_iff_eq.mpr c85
                                 have c85b1 : (((rd_T40 l0 x88_11).f2) != 2) = false := bne_eq_false_iff_eq.mpr c85
                                 clear c85
                                 have H' := Aside0.mk H
                                 clear H
                                 have hnb86 := NB449_442.out
                                 have hnc86 := NB442_449.out
                                 have hnb87 := NB449_445.out
                                 have hnc87 := NB445_449.out
                                 have hcz88_0 : wc.cell? ⟨gb449, 0, none⟩ = some (.int .i64 ((rd_T40 l0 x88_11).f0)) := (blk_cell BK449.out 0).trans rfl
                                 have hcz88_1 : wc.cell? ⟨gb449, 1, none⟩ = some (.int .i64 ((rd_T40 l0 x88_11).f1)) := (blk_cell BK449.out 1).trans rfl
                                 have hcz88_2 : wc.cell? ⟨gb449, 2, none⟩ = some (.int .i64 ((rd_T40 l0 x88_11).f2)) := (blk_cell BK449.out 2).trans rfl
                                 have hcz88_3 : wc.cell? ⟨gb449, 3, none⟩ = some (.int .i64 ((rd_T40 l0 x88_11).f3)) := (blk_cell BK449.out 3).trans rfl
                                 have hcz88_4 : wc.cell? ⟨gb449, 4, none⟩ = some (.int .i64 ((rd_T40 l0 x88_11).f4)) := (blk_cell BK449.out 4).trans rfl
                                 have hcz88_5 : wc.cell? ⟨gb449, 5, none⟩ = some (.int .i64 ((rd_T40 l0 x88_11).f5)) := (blk_cell BK449.out 5).trans rfl
                                 have hfz88_0 := blk_frozen BK449.out 0
                                 have hfz88_1 := blk_frozen BK449.out 1
                                 have hfz88_2 := blk_frozen BK449.out 2
                                 have hfz88_3 := blk_frozen BK449.out 3
                                 have hfz88_4 := blk_frozen BK449.out 4
                                 have hfz88_5 := blk_frozen BK449.out 5
                                 have hnb89 := NB445_442.out
                                 have hnc89 := NB442_445.out
                                 have hcz90_0 : wc.cell? ⟨gb445, 0, none⟩ = some (.int .i64 x45_6) := (blk_cell BK445.out 0).trans rfl
                                 have hcz90_1 : wc.cell? ⟨gb445, 1, none⟩ = some (.int .i64 x446001_11) := (blk_cell BK445.out 1).trans rfl
                                 have hcz90_2 : wc.cell? ⟨gb445, 2, none⟩ = some (.int .i64 x446002_11) := (blk_cell BK445.out 2).trans rfl
                                 have hcz90_3 : wc.cell? ⟨gb445, 3, none⟩ = some (.bool x446003_11) := (blk_cell BK445.out 3).trans rfl
                                 have hfz90_0 := blk_frozen BK445.out 0
                                 have hfz90_1 := blk_frozen BK445.out 1
                                 have hfz90_2 := blk_frozen BK445.out 2
                                 have hfz90_3 := blk_frozen BK445.out 3
                                 go_wp2
                                 go_roundg kj57
                                 case measure => have := HJ4.out; have := HJ7.out; have := HJ10.out; have := HJ13.out; have := HJ17.out; have := HK6.out; have := HJ20.out; have := HJ24.out; have := HJ35.out; have := HJ41.out; have := HK11.out; have := HJ46.out; have := HJ57.out; omega
                                 case rel => exact ⟨(wrap64 (x88_11 + 1)), (x446001_11), (((rd_T40 l0 x88_11).f5)), (true), (by first | rfl | (simp; done) | (simp [*]; done)), H', ⟨by have := HJ4.out; have := HJ7.out; have := HJ10.out; have := HJ13.out; have := HJ17.out; have := HK6.out; have := HJ20.out; have := HJ24.out; have := HJ35.out; have := HJ41.out; have := HK11.out; have := HJ46.out; have := HJ57.out; omega⟩, ⟨by (with_reducible repeat (first | apply Kd.R_alloc | apply Kd.R_drewN | apply Kd.R_drew)); exact Kd.R_mono (Kd.R_far (p := ⟨gb445, 3, none⟩) (Kd.R_far (p := ⟨gb445, 2, none⟩) (Kd.R_mono HO_43.out (fun k_ hk => (⟨hk, hk.2⟩ : _ ∧ k_ ≠ gb445))) (fun _ hk => hk.2) (.int .i64 ((rd_T40 l0 x88_11).f5))) (fun _ hk => hk.2) (.bool true)) (fun _ hk => ⟨hk.1.1, hk.1.2⟩)⟩, ⟨by (with_reducible repeat (first | refine blk_drewN ?_ _ | refine blk_drew ?_ | refine blk_alloc ?_ _)); refine blk_far ?_ NB442_445.out _; (with_reducible repeat (first | refine blk_drewN ?_ _ | refine blk_drew ?_ | refine blk_alloc ?_ _)); refine blk_far ?_ NB442_445.out _; (with_reducible repeat (first | refine blk_drewN ?_ _ | refine blk_drew ?_ | refine blk_alloc ?_ _)); exact BK442.out⟩, ⟨by (with_reducible repeat (first | refine blk_drewN ?_ _ | refine blk_drew ?_ | refine blk_alloc ?_ _)); refine blk_put (cs := #[.int .i64 x45_6, .int .i64 x446001_11, .int .i64 ((rd_T40 l0 x88_11).f5), .bool x446003_11]) ?_ 3 _ rfl; (with_reducible repeat (first | refine blk_drewN ?_ _ | refine blk_drew ?_ | refine blk_alloc ?_ _)); refine blk_put (cs := #[.int .i64 x45_6, .int .i64 x446001_11, .int .i64 x446002_11, .bool x446003_11]) ?_ 2 _ rfl; (with_reducible repeat (first | refine blk_drewN ?_ _ | refine blk_drew ?_ | refine blk_alloc ?_ _)); exact BK445.out⟩, ⟨by repeat (first | (with_reducible first | exact HB.out | apply below_alloc | apply pw_below_drewN | apply below_drew1 | refine below_set ?_ GE442.out | refine below_set ?_ GE445.out | refine below_set ?_ GE449.out) | exact HB.out)⟩⟩
                                ·rw [if_neg c85] at H
                                 have c85b0 : (((rd_T40 l0 x88_11).f2) == 2) = false := beq_eq_false_iff_ne.mpr c85
                                 have c85b1 : (((rd_T40 l0 x88_11).f2) != 2) = true := bne_iff_ne.mpr c85
                                 have H' := Aside0.mk H
                                 clear H
                                 have hnb91 := NB449_442.out
                                 have hnc91 := NB442_449.out
                                 have hnb92 := NB449_445.out
                                 have hnc92 := NB445_449.out
                                 have hcz93_0 : wc.cell? ⟨gb449, 0, none⟩ = some (.int .i64 ((rd_T40 l0 x88_11).f0)) := (blk_cell BK449.out 0).trans rfl
                                 have hcz93_1 : wc.cell? ⟨gb449, 1, none⟩ = some (.int .i64 ((rd_T40 l0 x88_11).f1)) := (blk_cell BK449.out 1).trans rfl
                                 have hcz93_2 : wc.cell? ⟨gb449, 2, none⟩ = some (.int .i64 ((rd_T40 l0 x88_11).f2)) := (blk_cell BK449.out 2).trans rfl
                                 have hcz93_3 : wc.cell? ⟨gb449, 3, none⟩ = some (.int .i64 ((rd_T40 l0 x88_11).f3)) := (blk_cell BK449.out 3).trans rfl
                                 have hcz93_4 : wc.cell? ⟨gb449, 4, none⟩ = some (.int .i64 ((rd_T40 l0 x88_11).f4)) := (blk_cell BK449.out 4).trans rfl
                                 have hcz93_5 : wc.cell? ⟨gb449, 5, none⟩ = some (.int .i64 ((rd_T40 l0 x88_11).f5)) := (blk_cell BK449.out 5).trans rfl
                                 have hfz93_0 := blk_frozen BK449.out 0
                                 have hfz93_1 := blk_frozen BK449.out 1
                                 have hfz93_2 := blk_frozen BK449.out 2
                                 have hfz93_3 := blk_frozen BK449.out 3
                                 have hfz93_4 := blk_frozen BK449.out 4
                                 have hfz93_5 := blk_frozen BK449.out 5
                                 have hnb94 := NB445_442.out
                                 have hnc94 := NB442_445.out
                                 have hcz95_0 : wc.cell? ⟨gb445, 0, none⟩ = some (.int .i64 x45_6) := (blk_cell BK445.out 0).trans rfl
                                 have hcz95_1 : wc.cell? ⟨gb445, 1, none⟩ = some (.int .i64 x446001_11) := (blk_cell BK445.out 1).trans rfl
                                 have hcz95_2 : wc.cell? ⟨gb445, 2, none⟩ = some (.int .i64 x446002_11) := (blk_cell BK445.out 2).trans rfl
                                 have hcz95_3 : wc.cell? ⟨gb445, 3, none⟩ = some (.bool x446003_11) := (blk_cell BK445.out 3).trans rfl
                                 have hfz95_0 := blk_frozen BK445.out 0
                                 have hfz95_1 := blk_frozen BK445.out 1
                                 have hfz95_2 := blk_frozen BK445.out 2
                                 have hfz95_3 := blk_frozen BK445.out 3
                                 go_wp2
                                 go_roundg kj57
                                 case measure => have := HJ4.out; have := HJ7.out; have := HJ10.out; have := HJ13.out; have := HJ17.out; have := HK6.out; have := HJ20.out; have := HJ24.out; have := HJ35.out; have := HJ41.out; have := HK11.out; have := HJ46.out; have := HJ57.out; omega
                                 case rel => exact ⟨(wrap64 (x88_11 + 1)), (((rd_T40 l0 x88_11).f4)), (((rd_T40 l0 x88_11).f5)), (x446003_11), (by first | rfl | (simp; done) | (simp [*]; done)), H', ⟨by have := HJ4.out; have := HJ7.out; have := HJ10.out; have := HJ13.out; have := HJ17.out; have := HK6.out; have := HJ20.out; have := HJ24.out; have := HJ35.out; have := HJ41.out; have := HK11.out; have := HJ46.out; have := HJ57.out; omega⟩, ⟨by (with_reducible repeat (first | apply Kd.R_alloc | apply Kd.R_drewN | apply Kd.R_drew)); exact Kd.R_mono (Kd.R_far (p := ⟨gb445, 1, none⟩) (Kd.R_far (p := ⟨gb445, 2, none⟩) (Kd.R_mono HO_43.out (fun k_ hk => (⟨hk, hk.2⟩ : _ ∧ k_ ≠ gb445))) (fun _ hk => hk.2) (.int .i64 ((rd_T40 l0 x88_11).f5))) (fun _ hk => hk.2) (.int .i64 ((rd_T40 l0 x88_11).f4))) (fun _ hk => ⟨hk.1.1, hk.1.2⟩)⟩, ⟨by (with_reducible repeat (first | refine blk_drewN ?_ _ | refine blk_drew ?_ | refine blk_alloc ?_ _)); refine blk_far ?_ NB442_445.out _; (with_reducible repeat (first | refine blk_drewN ?_ _ | refine blk_drew ?_ | refine blk_alloc ?_ _)); refine blk_far ?_ NB442_445.out _; (with_reducible repeat (first | refine blk_drewN ?_ _ | refine blk_drew ?_ | refine blk_alloc ?_ _)); exact BK442.out⟩, ⟨by (with_reducible repeat (first | refine blk_drewN ?_ _ | refine blk_drew ?_ | refine blk_alloc ?_ _)); refine blk_put (cs := #[.int .i64 x45_6, .int .i64 x446001_11, .int .i64 ((rd_T40 l0 x88_11).f5), .bool x446003_11]) ?_ 1 _ rfl; (with_reducible repeat (first | refine blk_drewN ?_ _ | refine blk_drew ?_ | refine blk_alloc ?_ _)); refine blk_put (cs := #[.int .i64 x45_6, .int .i64 x446001_11, .int .i64 x446002_11, .bool x446003_11]) ?_ 2 _ rfl; (with_reducible repeat (first | refine blk_drewN ?_ _ | refine blk_drew ?_ | refine blk_alloc ?_ _)); exact BK445.out⟩, ⟨by repeat (first | (with_reducible first | exact HB.out | apply below_alloc | apply pw_below_drewN | apply below_drew1 | refine below_set ?_ GE442.out | refine below_set ?_ GE445.out | refine below_set ?_ GE449.out) | exact HB.out)⟩⟩
                            ·rw [if_neg c57] at H
                             exact absurd H (by simp)
                           ·rw [if_neg c56] at H
                            exact absurd H (by simp)
                ·rw [if_neg c24] at H
                 exact absurd H (by simp)
               ·rw [if_neg c23] at H
                exact absurd H (by simp)

end Go.Proofs.Ytkclehmjkncmnaa.P
