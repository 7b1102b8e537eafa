-- printed by gprint.py (a program of this seat over the kit's print.py): Lean checks it
import Derived.Test.YtfbcjeknibfjcaaP0
import Derived.Test.YtfbcjeknibfjcaaP1
import Derived.Test.YtfbcjeknibfjcaaP15
import Derived.Test.YtfbcjeknibfjcaaG
import Derived.Test.YtfbcjeknibfjcaaG8
import Derived.Test.YtfbcjeknibfjcaaH
namespace Go.Proofs.Ytfbcjeknibfjcaa.P
open Go.RowKit Go.Proofs.YtfbcjeknibfjcaaW.PrintWords Go.Proofs.YtfbcjeknibfjcaaW.PrintLast Go.Proofs.YtfbcjeknibfjcaaW.PrintMore
attribute [local go_sem] max2_int min2_int max_two min_two max_three min_three max_four min_four   -- for this text's walks alone
set_option linter.unusedVariables false
set_option linter.unusedSimpArgs false

/-! ### testamurlaw13_DependsFirst: function 8 -/
mutual
def testamurlaw13_DependsFirst.j0 : Nat → List (S49) → ByteArray → ByteArray → Int → Int → List (S97) → List (S29) → Option (Bool)
 | 0, _, _, _, _, _, _, _ => none
 | k + 1, x1, x340000, x340001, x340002, x340003, x340004, x340005 => (testamurref13_Few.f k x340000 x340001 x340002 x340003 x340004 x340005).bind fun t341 => (if t341 = true then ((testamurref13_FewInstances.f k x1).bind fun t342 => (testamurlaw13_DependsFirst.j1 k x1 (!t342) x340000 x340001 x340002 x340003 x340004 x340005)) else (testamurlaw13_DependsFirst.j1 k x1 true x340000 x340001 x340002 x340003 x340004 x340005))
def testamurlaw13_DependsFirst.j1 : Nat → List (S49) → Bool → ByteArray → ByteArray → Int → Int → List (S97) → List (S29) → Option (Bool)
 | 0, _, _, _, _, _, _, _, _ => none
 | k + 1, x1, x25, x340000, x340001, x340002, x340003, x340004, x340005 => if x25 = true then (some true) else (testamurlaw13_DependsFirst.j2 k x1 x340000 x340001 x340002 x340003 x340004 x340005)
def testamurlaw13_DependsFirst.j2 : Nat → List (S49) → ByteArray → ByteArray → Int → Int → List (S97) → List (S29) → Option (Bool)
 | 0, _, _, _, _, _, _, _ => none
 | k + 1, x1, x340000, x340001, x340002, x340003, x340004, x340005 => (depends_Broken.f x340000 x340001 x340002 x340003 x340004 x340005 x1).bind fun bt343 => (if bt343.2.2.2.2 = 0 then (testamurlaw13_DependsFirst.j3 k x1 bt343.1 bt343.2.1 bt343.2.2.1 bt343.2.2.2.1 (!bt343.2.2.2.1) x340000 x340001 x340002 x340003 x340004 x340005) else (testamurlaw13_DependsFirst.j3 k x1 bt343.1 bt343.2.1 bt343.2.2.1 bt343.2.2.2.1 true x340000 x340001 x340002 x340003 x340004 x340005))
def testamurlaw13_DependsFirst.j3 : Nat → List (S49) → Int → Int → Int → Bool → Bool → ByteArray → ByteArray → Int → Int → List (S97) → List (S29) → Option (Bool)
 | 0, _, _, _, _, _, _, _, _, _, _, _, _ => none
 | k + 1, x1, x5, x6, x7, x8, x40, x340000, x340001, x340002, x340003, x340004, x340005 => if x40 = true then (if x5 = 0 then (if x6 = 0 then (if x7 = 0 then (some (!x8)) else (none)) else (none)) else (none)) else (testamurlaw13_DependsFirst.j4 k x1 x5 x6 x7 x340000 x340001 x340002 x340003 x340004 x340005)
def testamurlaw13_DependsFirst.j4 : Nat → List (S49) → Int → Int → Int → ByteArray → ByteArray → Int → Int → List (S97) → List (S29) → Option (Bool)
 | 0, _, _, _, _, _, _, _, _, _, _ => none
 | k + 1, x1, x5, x6, x7, x340000, x340001, x340002, x340003, x340004, x340005 => if x5 < 0 then (none) else (if x5 ≥ x6 then (none) else (if x6 ≥ (x1.length : Int) then (none) else (if x7 < 0 then (none) else (if x7 ≥ (x340005.length : Int) then (none) else (if 0 ≤ x5 then (if x5 < (x1.length : Int) then (if 0 ≤ x6 then (if x6 < (x1.length : Int) then (if 0 ≤ x7 then (if x7 < (x340005.length : Int) then ((testamurlaw13_breaks.f ((rd_T49 x1 x5).f0) ((rd_T49 x1 x5).f1) ((rd_T49 x1 x5).f2) ((rd_T49 x1 x5).f3) ((rd_T49 x1 x6).f0) ((rd_T49 x1 x6).f1) ((rd_T49 x1 x6).f2) ((rd_T49 x1 x6).f3) ((rd_T29 x340005 x7).f0) ((rd_T29 x340005 x7).f1) ((rd_T29 x340005 x7).f2) ((rd_T29 x340005 x7).f3)).bind fun t357 => (if t357 = true then (testamurlaw13_DependsFirst.j5 k x1 x5 x6 x7 x340000 x340001 x340002 x340003 x340004 x340005) else (none))) else (none)) else (none)) else (none)) else (none)) else (none)) else (none))))))
def testamurlaw13_DependsFirst.j5 : Nat → List (S49) → Int → Int → Int → ByteArray → ByteArray → Int → Int → List (S97) → List (S29) → Option (Bool)
 | 0, _, _, _, _, _, _, _, _, _, _ => none
 | k + 1, x1, x5, x6, x7, x340000, x340001, x340002, x340003, x340004, x340005 => testamurlaw13_DependsFirst.l0 k x1 x5 x6 x7 0 x340000 x340001 x340002 x340003 x340004 x340005
def testamurlaw13_DependsFirst.j13 : Nat → List (S49) → Int → Int → Int → ByteArray → ByteArray → Int → Int → List (S97) → List (S29) → Option (Bool)
 | 0, _, _, _, _, _, _, _, _, _, _ => none
 | k + 1, x1, x5, x6, x7, x340000, x340001, x340002, x340003, x340004, x340005 => if 0 ≤ x7 then (if x7 ≤ (x340005.length : Int) then ((some (x340005.take (x7 : Int).toNat : List (S29))).bind fun y369 => (testamurlaw13_DependsFirst.l3 k x1 x5 x6 y369 (y369.length : Int) 0)) else (none)) else (none)
def testamurlaw13_DependsFirst.l3 : Nat → List (S49) → Int → Int → List (S29) → Int → Int → Option (Bool)
 | 0, _, _, _, _, _, _ => none
 | k + 1, x1, x5, x6, x138, x139, x140 => if x140 < x139 then (if 0 ≤ x140 then (if x140 < (x138.length : Int) then (if 0 ≤ x5 then (if x5 < (x1.length : Int) then (if 0 ≤ x6 then (if x6 < (x1.length : Int) then ((testamurlaw13_breaks.f ((rd_T49 x1 x5).f0) ((rd_T49 x1 x5).f1) ((rd_T49 x1 x5).f2) ((rd_T49 x1 x5).f3) ((rd_T49 x1 x6).f0) ((rd_T49 x1 x6).f1) ((rd_T49 x1 x6).f2) ((rd_T49 x1 x6).f3) ((rd_T29 x138 x140).f0) ((rd_T29 x138 x140).f1) ((rd_T29 x138 x140).f2) ((rd_T29 x138 x140).f3)).bind fun t383 => (if t383 = true then (none) else (testamurlaw13_DependsFirst.l3 k x1 x5 x6 x138 x139 (wrap64 (x140 + 1))))) else (none)) else (none)) else (none)) else (none)) else (none)) else (none)) else (some true)
def testamurlaw13_DependsFirst.l0 : Nat → List (S49) → Int → Int → Int → Int → ByteArray → ByteArray → Int → Int → List (S97) → List (S29) → Option (Bool)
 | 0, _, _, _, _, _, _, _, _, _, _, _ => none
 | k + 1, x1, x5, x6, x7, x10, x340000, x340001, x340002, x340003, x340004, x340005 => if x10 ≤ x5 then (testamurlaw13_DependsFirst.j7 k x1 x5 x6 x7 x10 x340000 x340001 x340002 x340003 x340004 x340005) else (testamurlaw13_DependsFirst.j13 k x1 x5 x6 x7 x340000 x340001 x340002 x340003 x340004 x340005)
def testamurlaw13_DependsFirst.j7 : Nat → List (S49) → Int → Int → Int → Int → ByteArray → ByteArray → Int → Int → List (S97) → List (S29) → Option (Bool)
 | 0, _, _, _, _, _, _, _, _, _, _, _ => none
 | k + 1, x1, x5, x6, x7, x10, x340000, x340001, x340002, x340003, x340004, x340005 => testamurlaw13_DependsFirst.l1 k x1 x5 x6 x7 x10 (wrap64 (x10 + 1)) x340000 x340001 x340002 x340003 x340004 x340005
def testamurlaw13_DependsFirst.l1 : Nat → List (S49) → Int → Int → Int → Int → Int → ByteArray → ByteArray → Int → Int → List (S97) → List (S29) → Option (Bool)
 | 0, _, _, _, _, _, _, _, _, _, _, _, _ => none
 | k + 1, x1, x5, x6, x7, x10, x11, x340000, x340001, x340002, x340003, x340004, x340005 => if x11 < (x1.length : Int) then (testamurlaw13_DependsFirst.j9 k x1 x5 x6 x7 x10 x11 x340000 x340001 x340002 x340003 x340004 x340005) else (testamurlaw13_DependsFirst.l0 k x1 x5 x6 x7 (wrap64 (x10 + 1)) x340000 x340001 x340002 x340003 x340004 x340005)
def testamurlaw13_DependsFirst.j9 : Nat → List (S49) → Int → Int → Int → Int → Int → ByteArray → ByteArray → Int → Int → List (S97) → List (S29) → Option (Bool)
 | 0, _, _, _, _, _, _, _, _, _, _, _, _ => none
 | k + 1, x1, x5, x6, x7, x10, x11, x340000, x340001, x340002, x340003, x340004, x340005 => if x10 = x5 then (testamurlaw13_DependsFirst.j10 k x1 x5 x6 x7 x10 x11 (decide (x11 ≥ x6)) x340000 x340001 x340002 x340003 x340004 x340005) else (testamurlaw13_DependsFirst.j10 k x1 x5 x6 x7 x10 x11 false x340000 x340001 x340002 x340003 x340004 x340005)
def testamurlaw13_DependsFirst.j10 : Nat → List (S49) → Int → Int → Int → Int → Int → Bool → ByteArray → ByteArray → Int → Int → List (S97) → List (S29) → Option (Bool)
 | 0, _, _, _, _, _, _, _, _, _, _, _, _, _ => none
 | k + 1, x1, x5, x6, x7, x10, x11, x116, x340000, x340001, x340002, x340003, x340004, x340005 => if x116 = true then (testamurlaw13_DependsFirst.l0 k x1 x5 x6 x7 (wrap64 (x10 + 1)) x340000 x340001 x340002 x340003 x340004 x340005) else (testamurlaw13_DependsFirst.j11 k x1 x5 x6 x7 x10 x11 x340000 x340001 x340002 x340003 x340004 x340005)
def testamurlaw13_DependsFirst.j11 : Nat → List (S49) → Int → Int → Int → Int → Int → ByteArray → ByteArray → Int → Int → List (S97) → List (S29) → Option (Bool)
 | 0, _, _, _, _, _, _, _, _, _, _, _, _ => none
 | k + 1, x1, x5, x6, x7, x10, x11, x340000, x340001, x340002, x340003, x340004, x340005 => testamurlaw13_DependsFirst.l2 k x1 x5 x6 x7 x10 x11 x340005 (x340005.length : Int) 0 x340000 x340001 x340002 x340003 x340004 x340005
def testamurlaw13_DependsFirst.l2 : Nat → List (S49) → Int → Int → Int → Int → Int → List (S29) → Int → Int → ByteArray → ByteArray → Int → Int → List (S97) → List (S29) → Option (Bool)
 | 0, _, _, _, _, _, _, _, _, _, _, _, _, _, _, _ => none
 | k + 1, x1, x5, x6, x7, x10, x11, x118, x119, x120, x340000, x340001, x340002, x340003, x340004, x340005 => if x120 < x119 then (if 0 ≤ x120 then (if x120 < (x118.length : Int) then (if 0 ≤ x10 then (if x10 < (x1.length : Int) then (if 0 ≤ x11 then (if x11 < (x1.length : Int) then ((testamurlaw13_breaks.f ((rd_T49 x1 x10).f0) ((rd_T49 x1 x10).f1) ((rd_T49 x1 x10).f2) ((rd_T49 x1 x10).f3) ((rd_T49 x1 x11).f0) ((rd_T49 x1 x11).f1) ((rd_T49 x1 x11).f2) ((rd_T49 x1 x11).f3) ((rd_T29 x118 x120).f0) ((rd_T29 x118 x120).f1) ((rd_T29 x118 x120).f2) ((rd_T29 x118 x120).f3)).bind fun t368 => (if t368 = true then (none) else (testamurlaw13_DependsFirst.l2 k x1 x5 x6 x7 x10 x11 x118 x119 (wrap64 (x120 + 1)) x340000 x340001 x340002 x340003 x340004 x340005))) else (none)) else (none)) else (none)) else (none)) else (none)) else (none)) else (testamurlaw13_DependsFirst.l1 k x1 x5 x6 x7 x10 (wrap64 (x11 + 1)) x340000 x340001 x340002 x340003 x340004 x340005)
end
def testamurlaw13_DependsFirst.f (k : Nat) (a0_0 : ByteArray) (a0_1 : ByteArray) (a0_2 : Int) (a0_3 : Int) (l0_4 : List (S97)) (l0_5 : List (S29)) (l1 : List (S49)) : Option (Bool) := (testamurlaw13_sane.f).bind fun t340 => (if t340 = true then (testamurlaw13_DependsFirst.j0 k l1 a0_0 a0_1 a0_2 a0_3 l0_4 l0_5) else (none))
theorem testamurlaw13_DependsFirst.mono_l : ∀ k, (∀ y0 y1 y2 y3 y4 y5 y6, LeO (testamurlaw13_DependsFirst.j0 k y0 y1 y2 y3 y4 y5 y6) (testamurlaw13_DependsFirst.j0 (k + 1) y0 y1 y2 y3 y4 y5 y6)) ∧ (∀ y0 y1 y2 y3 y4 y5 y6 y7, LeO (testamurlaw13_DependsFirst.j1 k y0 y1 y2 y3 y4 y5 y6 y7) (testamurlaw13_DependsFirst.j1 (k + 1) y0 y1 y2 y3 y4 y5 y6 y7)) ∧ (∀ y0 y1 y2 y3 y4 y5 y6, LeO (testamurlaw13_DependsFirst.j2 k y0 y1 y2 y3 y4 y5 y6) (testamurlaw13_DependsFirst.j2 (k + 1) y0 y1 y2 y3 y4 y5 y6)) ∧ (∀ y0 y1 y2 y3 y4 y5 y6 y7 y8 y9 y10 y11, LeO (testamurlaw13_DependsFirst.j3 k y0 y1 y2 y3 y4 y5 y6 y7 y8 y9 y10 y11) (testamurlaw13_DependsFirst.j3 (k + 1) y0 y1 y2 y3 y4 y5 y6 y7 y8 y9 y10 y11)) ∧ (∀ y0 y1 y2 y3 y4 y5 y6 y7 y8 y9, LeO (testamurlaw13_DependsFirst.j4 k y0 y1 y2 y3 y4 y5 y6 y7 y8 y9) (testamurlaw13_DependsFirst.j4 (k + 1) y0 y1 y2 y3 y4 y5 y6 y7 y8 y9)) ∧ (∀ y0 y1 y2 y3 y4 y5 y6 y7 y8 y9, LeO (testamurlaw13_DependsFirst.j5 k y0 y1 y2 y3 y4 y5 y6 y7 y8 y9) (testamurlaw13_DependsFirst.j5 (k + 1) y0 y1 y2 y3 y4 y5 y6 y7 y8 y9)) ∧ (∀ y0 y1 y2 y3 y4 y5 y6 y7 y8 y9, LeO (testamurlaw13_DependsFirst.j13 k y0 y1 y2 y3 y4 y5 y6 y7 y8 y9) (testamurlaw13_DependsFirst.j13 (k + 1) y0 y1 y2 y3 y4 y5 y6 y7 y8 y9)) ∧ (∀ y0 y1 y2 y3 y4 y5, LeO (testamurlaw13_DependsFirst.l3 k y0 y1 y2 y3 y4 y5) (testamurlaw13_DependsFirst.l3 (k + 1) y0 y1 y2 y3 y4 y5)) ∧ (∀ y0 y1 y2 y3 y4 y5 y6 y7 y8 y9 y10, LeO (testamurlaw13_DependsFirst.l0 k y0 y1 y2 y3 y4 y5 y6 y7 y8 y9 y10) (testamurlaw13_DependsFirst.l0 (k + 1) y0 y1 y2 y3 y4 y5 y6 y7 y8 y9 y10)) ∧ (∀ y0 y1 y2 y3 y4 y5 y6 y7 y8 y9 y10, LeO (testamurlaw13_DependsFirst.j7 k y0 y1 y2 y3 y4 y5 y6 y7 y8 y9 y10) (testamurlaw13_DependsFirst.j7 (k + 1) y0 y1 y2 y3 y4 y5 y6 y7 y8 y9 y10)) ∧ (∀ y0 y1 y2 y3 y4 y5 y6 y7 y8 y9 y10 y11, LeO (testamurlaw13_DependsFirst.l1 k y0 y1 y2 y3 y4 y5 y6 y7 y8 y9 y10 y11) (testamurlaw13_DependsFirst.l1 (k + 1) y0 y1 y2 y3 y4 y5 y6 y7 y8 y9 y10 y11)) ∧ (∀ y0 y1 y2 y3 y4 y5 y6 y7 y8 y9 y10 y11, LeO (testamurlaw13_DependsFirst.j9 k y0 y1 y2 y3 y4 y5 y6 y7 y8 y9 y10 y11) (testamurlaw13_DependsFirst.j9 (k + 1) y0 y1 y2 y3 y4 y5 y6 y7 y8 y9 y10 y11)) ∧ (∀ y0 y1 y2 y3 y4 y5 y6 y7 y8 y9 y10 y11 y12, LeO (testamurlaw13_DependsFirst.j10 k y0 y1 y2 y3 y4 y5 y6 y7 y8 y9 y10 y11 y12) (testamurlaw13_DependsFirst.j10 (k + 1) y0 y1 y2 y3 y4 y5 y6 y7 y8 y9 y10 y11 y12)) ∧ (∀ y0 y1 y2 y3 y4 y5 y6 y7 y8 y9 y10 y11, LeO (testamurlaw13_DependsFirst.j11 k y0 y1 y2 y3 y4 y5 y6 y7 y8 y9 y10 y11) (testamurlaw13_DependsFirst.j11 (k + 1) y0 y1 y2 y3 y4 y5 y6 y7 y8 y9 y10 y11)) ∧ (∀ y0 y1 y2 y3 y4 y5 y6 y7 y8 y9 y10 y11 y12 y13 y14, LeO (testamurlaw13_DependsFirst.l2 k y0 y1 y2 y3 y4 y5 y6 y7 y8 y9 y10 y11 y12 y13 y14) (testamurlaw13_DependsFirst.l2 (k + 1) y0 y1 y2 y3 y4 y5 y6 y7 y8 y9 y10 y11 y12 y13 y14))
 | 0 => ⟨fun _ _ _ _ _ _ _ r h => by simp [testamurlaw13_DependsFirst.j0] at h, fun _ _ _ _ _ _ _ _ r h => by simp [testamurlaw13_DependsFirst.j1] at h, fun _ _ _ _ _ _ _ r h => by simp [testamurlaw13_DependsFirst.j2] at h, fun _ _ _ _ _ _ _ _ _ _ _ _ r h => by simp [testamurlaw13_DependsFirst.j3] at h, fun _ _ _ _ _ _ _ _ _ _ r h => by simp [testamurlaw13_DependsFirst.j4] at h, fun _ _ _ _ _ _ _ _ _ _ r h => by simp [testamurlaw13_DependsFirst.j5] at h, fun _ _ _ _ _ _ _ _ _ _ r h => by simp [testamurlaw13_DependsFirst.j13] at h, fun _ _ _ _ _ _ r h => by simp [testamurlaw13_DependsFirst.l3] at h, fun _ _ _ _ _ _ _ _ _ _ _ r h => by simp [testamurlaw13_DependsFirst.l0] at h, fun _ _ _ _ _ _ _ _ _ _ _ r h => by simp [testamurlaw13_DependsFirst.j7] at h, fun _ _ _ _ _ _ _ _ _ _ _ _ r h => by simp [testamurlaw13_DependsFirst.l1] at h, fun _ _ _ _ _ _ _ _ _ _ _ _ r h => by simp [testamurlaw13_DependsFirst.j9] at h, fun _ _ _ _ _ _ _ _ _ _ _ _ _ r h => by simp [testamurlaw13_DependsFirst.j10] at h, fun _ _ _ _ _ _ _ _ _ _ _ _ r h => by simp [testamurlaw13_DependsFirst.j11] at h, fun _ _ _ _ _ _ _ _ _ _ _ _ _ _ _ r h => by simp [testamurlaw13_DependsFirst.l2] at h⟩
 | k + 1 => by
  obtain ⟨ih0, ih1, ih2, ih3, ih4, ih5, ih6, ih7, ih8, ih9, ih10, ih11, ih12, ih13, ih14⟩ := testamurlaw13_DependsFirst.mono_l k
  refine ⟨?_, ?_, ?_, ?_, ?_, ?_, ?_, ?_, ?_, ?_, ?_, ?_, ?_, ?_, ?_⟩
  ·intro y0 y1 y2 y3 y4 y5 y6
   unfold testamurlaw13_DependsFirst.j0
   repeat' first
   | (with_reducible exact ih0 _ _ _ _ _ _ _)
   | (with_reducible exact ih1 _ _ _ _ _ _ _ _)
   | (with_reducible exact ih2 _ _ _ _ _ _ _)
   | (with_reducible exact ih3 _ _ _ _ _ _ _ _ _ _ _ _)
   | (with_reducible exact ih4 _ _ _ _ _ _ _ _ _ _)
   | (with_reducible exact ih5 _ _ _ _ _ _ _ _ _ _)
   | (with_reducible exact ih6 _ _ _ _ _ _ _ _ _ _)
   | (with_reducible exact ih7 _ _ _ _ _ _)
   | (with_reducible exact ih8 _ _ _ _ _ _ _ _ _ _ _)
   | (with_reducible exact ih9 _ _ _ _ _ _ _ _ _ _ _)
   | (with_reducible exact ih10 _ _ _ _ _ _ _ _ _ _ _ _)
   | (with_reducible exact ih11 _ _ _ _ _ _ _ _ _ _ _ _)
   | (with_reducible exact ih12 _ _ _ _ _ _ _ _ _ _ _ _ _)
   | (with_reducible exact ih13 _ _ _ _ _ _ _ _ _ _ _ _)
   | (with_reducible exact ih14 _ _ _ _ _ _ _ _ _ _ _ _ _ _ _)
   | (with_reducible exact testamurref13_Few.mono _ _ _ _ _ _ _)
   | (with_reducible exact testamurref13_FewInstances.mono _ _)
   | (with_reducible exact LeO.refl _)
   | (with_reducible exact LeO.none _)
   | (with_reducible refine LeO.ite ?_ ?_)
   | (with_reducible refine LeO.bind ?_ (fun _ => ?_))
   | exact ih0 _ _ _ _ _ _ _
   | exact ih1 _ _ _ _ _ _ _ _
   | exact ih2 _ _ _ _ _ _ _
   | exact ih3 _ _ _ _ _ _ _ _ _ _ _ _
   | exact ih4 _ _ _ _ _ _ _ _ _ _
   | exact ih5 _ _ _ _ _ _ _ _ _ _
   | exact ih6 _ _ _ _ _ _ _ _ _ _
   | exact ih7 _ _ _ _ _ _
   | exact ih8 _ _ _ _ _ _ _ _ _ _ _
   | exact ih9 _ _ _ _ _ _ _ _ _ _ _
   | exact ih10 _ _ _ _ _ _ _ _ _ _ _ _
   | exact ih11 _ _ _ _ _ _ _ _ _ _ _ _
   | exact ih12 _ _ _ _ _ _ _ _ _ _ _ _ _
   | exact ih13 _ _ _ _ _ _ _ _ _ _ _ _
   | exact ih14 _ _ _ _ _ _ _ _ _ _ _ _ _ _ _
   | exact testamurref13_Few.mono _ _ _ _ _ _ _
   | exact testamurref13_FewInstances.mono _ _
   | exact LeO.none _
   | refine LeO.ite ?_ ?_
   | refine LeO.bind ?_ (fun _ => ?_)
  ·intro y0 y1 y2 y3 y4 y5 y6 y7
   unfold testamurlaw13_DependsFirst.j1
   repeat' first
   | (with_reducible exact ih0 _ _ _ _ _ _ _)
   | (with_reducible exact ih1 _ _ _ _ _ _ _ _)
   | (with_reducible exact ih2 _ _ _ _ _ _ _)
   | (with_reducible exact ih3 _ _ _ _ _ _ _ _ _ _ _ _)
   | (with_reducible exact ih4 _ _ _ _ _ _ _ _ _ _)
   | (with_reducible exact ih5 _ _ _ _ _ _ _ _ _ _)
   | (with_reducible exact ih6 _ _ _ _ _ _ _ _ _ _)
   | (with_reducible exact ih7 _ _ _ _ _ _)
   | (with_reducible exact ih8 _ _ _ _ _ _ _ _ _ _ _)
   | (with_reducible exact ih9 _ _ _ _ _ _ _ _ _ _ _)
   | (with_reducible exact ih10 _ _ _ _ _ _ _ _ _ _ _ _)
   | (with_reducible exact ih11 _ _ _ _ _ _ _ _ _ _ _ _)
   | (with_reducible exact ih12 _ _ _ _ _ _ _ _ _ _ _ _ _)
   | (with_reducible exact ih13 _ _ _ _ _ _ _ _ _ _ _ _)
   | (with_reducible exact ih14 _ _ _ _ _ _ _ _ _ _ _ _ _ _ _)
   | (with_reducible exact testamurref13_Few.mono _ _ _ _ _ _ _)
   | (with_reducible exact testamurref13_FewInstances.mono _ _)
   | (with_reducible exact LeO.refl _)
   | (with_reducible exact LeO.none _)
   | (with_reducible refine LeO.ite ?_ ?_)
   | (with_reducible refine LeO.bind ?_ (fun _ => ?_))
   | exact ih0 _ _ _ _ _ _ _
   | exact ih1 _ _ _ _ _ _ _ _
   | exact ih2 _ _ _ _ _ _ _
   | exact ih3 _ _ _ _ _ _ _ _ _ _ _ _
   | exact ih4 _ _ _ _ _ _ _ _ _ _
   | exact ih5 _ _ _ _ _ _ _ _ _ _
   | exact ih6 _ _ _ _ _ _ _ _ _ _
   | exact ih7 _ _ _ _ _ _
   | exact ih8 _ _ _ _ _ _ _ _ _ _ _
   | exact ih9 _ _ _ _ _ _ _ _ _ _ _
   | exact ih10 _ _ _ _ _ _ _ _ _ _ _ _
   | exact ih11 _ _ _ _ _ _ _ _ _ _ _ _
   | exact ih12 _ _ _ _ _ _ _ _ _ _ _ _ _
   | exact ih13 _ _ _ _ _ _ _ _ _ _ _ _
   | exact ih14 _ _ _ _ _ _ _ _ _ _ _ _ _ _ _
   | exact testamurref13_Few.mono _ _ _ _ _ _ _
   | exact testamurref13_FewInstances.mono _ _
   | exact LeO.none _
   | refine LeO.ite ?_ ?_
   | refine LeO.bind ?_ (fun _ => ?_)
  ·intro y0 y1 y2 y3 y4 y5 y6
   unfold testamurlaw13_DependsFirst.j2
   repeat' first
   | (with_reducible exact ih0 _ _ _ _ _ _ _)
   | (with_reducible exact ih1 _ _ _ _ _ _ _ _)
   | (with_reducible exact ih2 _ _ _ _ _ _ _)
   | (with_reducible exact ih3 _ _ _ _ _ _ _ _ _ _ _ _)
   | (with_reducible exact ih4 _ _ _ _ _ _ _ _ _ _)
   | (with_reducible exact ih5 _ _ _ _ _ _ _ _ _ _)
   | (with_reducible exact ih6 _ _ _ _ _ _ _ _ _ _)
   | (with_reducible exact ih7 _ _ _ _ _ _)
   | (with_reducible exact ih8 _ _ _ _ _ _ _ _ _ _ _)
   | (with_reducible exact ih9 _ _ _ _ _ _ _ _ _ _ _)
   | (with_reducible exact ih10 _ _ _ _ _ _ _ _ _ _ _ _)
   | (with_reducible exact ih11 _ _ _ _ _ _ _ _ _ _ _ _)
   | (with_reducible exact ih12 _ _ _ _ _ _ _ _ _ _ _ _ _)
   | (with_reducible exact ih13 _ _ _ _ _ _ _ _ _ _ _ _)
   | (with_reducible exact ih14 _ _ _ _ _ _ _ _ _ _ _ _ _ _ _)
   | (with_reducible exact testamurref13_Few.mono _ _ _ _ _ _ _)
   | (with_reducible exact testamurref13_FewInstances.mono _ _)
   | (with_reducible exact LeO.refl _)
   | (with_reducible exact LeO.none _)
   | (with_reducible refine LeO.ite ?_ ?_)
   | (with_reducible refine LeO.bind ?_ (fun _ => ?_))
   | exact ih0 _ _ _ _ _ _ _
   | exact ih1 _ _ _ _ _ _ _ _
   | exact ih2 _ _ _ _ _ _ _
   | exact ih3 _ _ _ _ _ _ _ _ _ _ _ _
   | exact ih4 _ _ _ _ _ _ _ _ _ _
   | exact ih5 _ _ _ _ _ _ _ _ _ _
   | exact ih6 _ _ _ _ _ _ _ _ _ _
   | exact ih7 _ _ _ _ _ _
   | exact ih8 _ _ _ _ _ _ _ _ _ _ _
   | exact ih9 _ _ _ _ _ _ _ _ _ _ _
   | exact ih10 _ _ _ _ _ _ _ _ _ _ _ _
   | exact ih11 _ _ _ _ _ _ _ _ _ _ _ _
   | exact ih12 _ _ _ _ _ _ _ _ _ _ _ _ _
   | exact ih13 _ _ _ _ _ _ _ _ _ _ _ _
   | exact ih14 _ _ _ _ _ _ _ _ _ _ _ _ _ _ _
   | exact testamurref13_Few.mono _ _ _ _ _ _ _
   | exact testamurref13_FewInstances.mono _ _
   | exact LeO.none _
   | refine LeO.ite ?_ ?_
   | refine LeO.bind ?_ (fun _ => ?_)
  ·intro y0 y1 y2 y3 y4 y5 y6 y7 y8 y9 y10 y11
   unfold testamurlaw13_DependsFirst.j3
   repeat' first
   | (with_reducible exact ih0 _ _ _ _ _ _ _)
   | (with_reducible exact ih1 _ _ _ _ _ _ _ _)
   | (with_reducible exact ih2 _ _ _ _ _ _ _)
   | (with_reducible exact ih3 _ _ _ _ _ _ _ _ _ _ _ _)
   | (with_reducible exact ih4 _ _ _ _ _ _ _ _ _ _)
   | (with_reducible exact ih5 _ _ _ _ _ _ _ _ _ _)
   | (with_reducible exact ih6 _ _ _ _ _ _ _ _ _ _)
   | (with_reducible exact ih7 _ _ _ _ _ _)
   | (with_reducible exact ih8 _ _ _ _ _ _ _ _ _ _ _)
   | (with_reducible exact ih9 _ _ _ _ _ _ _ _ _ _ _)
   | (with_reducible exact ih10 _ _ _ _ _ _ _ _ _ _ _ _)
   | (with_reducible exact ih11 _ _ _ _ _ _ _ _ _ _ _ _)
   | (with_reducible exact ih12 _ _ _ _ _ _ _ _ _ _ _ _ _)
   | (with_reducible exact ih13 _ _ _ _ _ _ _ _ _ _ _ _)
   | (with_reducible exact ih14 _ _ _ _ _ _ _ _ _ _ _ _ _ _ _)
   | (with_reducible exact testamurref13_Few.mono _ _ _ _ _ _ _)
   | (with_reducible exact testamurref13_FewInstances.mono _ _)
   | (with_reducible exact LeO.refl _)
   | (with_reducible exact LeO.none _)
   | (with_reducible refine LeO.ite ?_ ?_)
   | (with_reducible refine LeO.bind ?_ (fun _ => ?_))
   | exact ih0 _ _ _ _ _ _ _
   | exact ih1 _ _ _ _ _ _ _ _
   | exact ih2 _ _ _ _ _ _ _
   | exact ih3 _ _ _ _ _ _ _ _ _ _ _ _
   | exact ih4 _ _ _ _ _ _ _ _ _ _
   | exact ih5 _ _ _ _ _ _ _ _ _ _
   | exact ih6 _ _ _ _ _ _ _ _ _ _
   | exact ih7 _ _ _ _ _ _
   | exact ih8 _ _ _ _ _ _ _ _ _ _ _
   | exact ih9 _ _ _ _ _ _ _ _ _ _ _
   | exact ih10 _ _ _ _ _ _ _ _ _ _ _ _
   | exact ih11 _ _ _ _ _ _ _ _ _ _ _ _
   | exact ih12 _ _ _ _ _ _ _ _ _ _ _ _ _
   | exact ih13 _ _ _ _ _ _ _ _ _ _ _ _
   | exact ih14 _ _ _ _ _ _ _ _ _ _ _ _ _ _ _
   | exact testamurref13_Few.mono _ _ _ _ _ _ _
   | exact testamurref13_FewInstances.mono _ _
   | exact LeO.none _
   | refine LeO.ite ?_ ?_
   | refine LeO.bind ?_ (fun _ => ?_)
  ·intro y0 y1 y2 y3 y4 y5 y6 y7 y8 y9
   unfold testamurlaw13_DependsFirst.j4
   repeat' first
   | (with_reducible exact ih0 _ _ _ _ _ _ _)
   | (with_reducible exact ih1 _ _ _ _ _ _ _ _)
   | (with_reducible exact ih2 _ _ _ _ _ _ _)
   | (with_reducible exact ih3 _ _ _ _ _ _ _ _ _ _ _ _)
   | (with_reducible exact ih4 _ _ _ _ _ _ _ _ _ _)
   | (with_reducible exact ih5 _ _ _ _ _ _ _ _ _ _)
   | (with_reducible exact ih6 _ _ _ _ _ _ _ _ _ _)
   | (with_reducible exact ih7 _ _ _ _ _ _)
   | (with_reducible exact ih8 _ _ _ _ _ _ _ _ _ _ _)
   | (with_reducible exact ih9 _ _ _ _ _ _ _ _ _ _ _)
   | (with_reducible exact ih10 _ _ _ _ _ _ _ _ _ _ _ _)
   | (with_reducible exact ih11 _ _ _ _ _ _ _ _ _ _ _ _)
   | (with_reducible exact ih12 _ _ _ _ _ _ _ _ _ _ _ _ _)
   | (with_reducible exact ih13 _ _ _ _ _ _ _ _ _ _ _ _)
   | (with_reducible exact ih14 _ _ _ _ _ _ _ _ _ _ _ _ _ _ _)
   | (with_reducible exact testamurref13_Few.mono _ _ _ _ _ _ _)
   | (with_reducible exact testamurref13_FewInstances.mono _ _)
   | (with_reducible exact LeO.refl _)
   | (with_reducible exact LeO.none _)
   | (with_reducible refine LeO.ite ?_ ?_)
   | (with_reducible refine LeO.bind ?_ (fun _ => ?_))
   | exact ih0 _ _ _ _ _ _ _
   | exact ih1 _ _ _ _ _ _ _ _
   | exact ih2 _ _ _ _ _ _ _
   | exact ih3 _ _ _ _ _ _ _ _ _ _ _ _
   | exact ih4 _ _ _ _ _ _ _ _ _ _
   | exact ih5 _ _ _ _ _ _ _ _ _ _
   | exact ih6 _ _ _ _ _ _ _ _ _ _
   | exact ih7 _ _ _ _ _ _
   | exact ih8 _ _ _ _ _ _ _ _ _ _ _
   | exact ih9 _ _ _ _ _ _ _ _ _ _ _
   | exact ih10 _ _ _ _ _ _ _ _ _ _ _ _
   | exact ih11 _ _ _ _ _ _ _ _ _ _ _ _
   | exact ih12 _ _ _ _ _ _ _ _ _ _ _ _ _
   | exact ih13 _ _ _ _ _ _ _ _ _ _ _ _
   | exact ih14 _ _ _ _ _ _ _ _ _ _ _ _ _ _ _
   | exact testamurref13_Few.mono _ _ _ _ _ _ _
   | exact testamurref13_FewInstances.mono _ _
   | exact LeO.none _
   | refine LeO.ite ?_ ?_
   | refine LeO.bind ?_ (fun _ => ?_)
  ·intro y0 y1 y2 y3 y4 y5 y6 y7 y8 y9
   unfold testamurlaw13_DependsFirst.j5
   repeat' first
   | (with_reducible exact ih0 _ _ _ _ _ _ _)
   | (with_reducible exact ih1 _ _ _ _ _ _ _ _)
   | (with_reducible exact ih2 _ _ _ _ _ _ _)
   | (with_reducible exact ih3 _ _ _ _ _ _ _ _ _ _ _ _)
   | (with_reducible exact ih4 _ _ _ _ _ _ _ _ _ _)
   | (with_reducible exact ih5 _ _ _ _ _ _ _ _ _ _)
   | (with_reducible exact ih6 _ _ _ _ _ _ _ _ _ _)
   | (with_reducible exact ih7 _ _ _ _ _ _)
   | (with_reducible exact ih8 _ _ _ _ _ _ _ _ _ _ _)
   | (with_reducible exact ih9 _ _ _ _ _ _ _ _ _ _ _)
   | (with_reducible exact ih10 _ _ _ _ _ _ _ _ _ _ _ _)
   | (with_reducible exact ih11 _ _ _ _ _ _ _ _ _ _ _ _)
   | (with_reducible exact ih12 _ _ _ _ _ _ _ _ _ _ _ _ _)
   | (with_reducible exact ih13 _ _ _ _ _ _ _ _ _ _ _ _)
   | (with_reducible exact ih14 _ _ _ _ _ _ _ _ _ _ _ _ _ _ _)
   | (with_reducible exact testamurref13_Few.mono _ _ _ _ _ _ _)
   | (with_reducible exact testamurref13_FewInstances.mono _ _)
   | (with_reducible exact LeO.refl _)
   | (with_reducible exact LeO.none _)
   | (with_reducible refine LeO.ite ?_ ?_)
   | (with_reducible refine LeO.bind ?_ (fun _ => ?_))
   | exact ih0 _ _ _ _ _ _ _
   | exact ih1 _ _ _ _ _ _ _ _
   | exact ih2 _ _ _ _ _ _ _
   | exact ih3 _ _ _ _ _ _ _ _ _ _ _ _
   | exact ih4 _ _ _ _ _ _ _ _ _ _
   | exact ih5 _ _ _ _ _ _ _ _ _ _
   | exact ih6 _ _ _ _ _ _ _ _ _ _
   | exact ih7 _ _ _ _ _ _
   | exact ih8 _ _ _ _ _ _ _ _ _ _ _
   | exact ih9 _ _ _ _ _ _ _ _ _ _ _
   | exact ih10 _ _ _ _ _ _ _ _ _ _ _ _
   | exact ih11 _ _ _ _ _ _ _ _ _ _ _ _
   | exact ih12 _ _ _ _ _ _ _ _ _ _ _ _ _
   | exact ih13 _ _ _ _ _ _ _ _ _ _ _ _
   | exact ih14 _ _ _ _ _ _ _ _ _ _ _ _ _ _ _
   | exact testamurref13_Few.mono _ _ _ _ _ _ _
   | exact testamurref13_FewInstances.mono _ _
   | exact LeO.none _
   | refine LeO.ite ?_ ?_
   | refine LeO.bind ?_ (fun _ => ?_)
  ·intro y0 y1 y2 y3 y4 y5 y6 y7 y8 y9
   unfold testamurlaw13_DependsFirst.j13
   repeat' first
   | (with_reducible exact ih0 _ _ _ _ _ _ _)
   | (with_reducible exact ih1 _ _ _ _ _ _ _ _)
   | (with_reducible exact ih2 _ _ _ _ _ _ _)
   | (with_reducible exact ih3 _ _ _ _ _ _ _ _ _ _ _ _)
   | (with_reducible exact ih4 _ _ _ _ _ _ _ _ _ _)
   | (with_reducible exact ih5 _ _ _ _ _ _ _ _ _ _)
   | (with_reducible exact ih6 _ _ _ _ _ _ _ _ _ _)
   | (with_reducible exact ih7 _ _ _ _ _ _)
   | (with_reducible exact ih8 _ _ _ _ _ _ _ _ _ _ _)
   | (with_reducible exact ih9 _ _ _ _ _ _ _ _ _ _ _)
   | (with_reducible exact ih10 _ _ _ _ _ _ _ _ _ _ _ _)
   | (with_reducible exact ih11 _ _ _ _ _ _ _ _ _ _ _ _)
   | (with_reducible exact ih12 _ _ _ _ _ _ _ _ _ _ _ _ _)
   | (with_reducible exact ih13 _ _ _ _ _ _ _ _ _ _ _ _)
   | (with_reducible exact ih14 _ _ _ _ _ _ _ _ _ _ _ _ _ _ _)
   | (with_reducible exact testamurref13_Few.mono _ _ _ _ _ _ _)
   | (with_reducible exact testamurref13_FewInstances.mono _ _)
   | (with_reducible exact LeO.refl _)
   | (with_reducible exact LeO.none _)
   | (with_reducible refine LeO.ite ?_ ?_)
   | (with_reducible refine LeO.bind ?_ (fun _ => ?_))
   | exact ih0 _ _ _ _ _ _ _
   | exact ih1 _ _ _ _ _ _ _ _
   | exact ih2 _ _ _ _ _ _ _
   | exact ih3 _ _ _ _ _ _ _ _ _ _ _ _
   | exact ih4 _ _ _ _ _ _ _ _ _ _
   | exact ih5 _ _ _ _ _ _ _ _ _ _
   | exact ih6 _ _ _ _ _ _ _ _ _ _
   | exact ih7 _ _ _ _ _ _
   | exact ih8 _ _ _ _ _ _ _ _ _ _ _
   | exact ih9 _ _ _ _ _ _ _ _ _ _ _
   | exact ih10 _ _ _ _ _ _ _ _ _ _ _ _
   | exact ih11 _ _ _ _ _ _ _ _ _ _ _ _
   | exact ih12 _ _ _ _ _ _ _ _ _ _ _ _ _
   | exact ih13 _ _ _ _ _ _ _ _ _ _ _ _
   | exact ih14 _ _ _ _ _ _ _ _ _ _ _ _ _ _ _
   | exact testamurref13_Few.mono _ _ _ _ _ _ _
   | exact testamurref13_FewInstances.mono _ _
   | exact LeO.none _
   | refine LeO.ite ?_ ?_
   | refine LeO.bind ?_ (fun _ => ?_)
  ·intro y0 y1 y2 y3 y4 y5
   unfold testamurlaw13_DependsFirst.l3
   repeat' first
   | (with_reducible exact ih0 _ _ _ _ _ _ _)
   | (with_reducible exact ih1 _ _ _ _ _ _ _ _)
   | (with_reducible exact ih2 _ _ _ _ _ _ _)
   | (with_reducible exact ih3 _ _ _ _ _ _ _ _ _ _ _ _)
   | (with_reducible exact ih4 _ _ _ _ _ _ _ _ _ _)
   | (with_reducible exact ih5 _ _ _ _ _ _ _ _ _ _)
   | (with_reducible exact ih6 _ _ _ _ _ _ _ _ _ _)
   | (with_reducible exact ih7 _ _ _ _ _ _)
   | (with_reducible exact ih8 _ _ _ _ _ _ _ _ _ _ _)
   | (with_reducible exact ih9 _ _ _ _ _ _ _ _ _ _ _)
   | (with_reducible exact ih10 _ _ _ _ _ _ _ _ _ _ _ _)
   | (with_reducible exact ih11 _ _ _ _ _ _ _ _ _ _ _ _)
   | (with_reducible exact ih12 _ _ _ _ _ _ _ _ _ _ _ _ _)
   | (with_reducible exact ih13 _ _ _ _ _ _ _ _ _ _ _ _)
   | (with_reducible exact ih14 _ _ _ _ _ _ _ _ _ _ _ _ _ _ _)
   | (with_reducible exact testamurref13_Few.mono _ _ _ _ _ _ _)
   | (with_reducible exact testamurref13_FewInstances.mono _ _)
   | (with_reducible exact LeO.refl _)
   | (with_reducible exact LeO.none _)
   | (with_reducible refine LeO.ite ?_ ?_)
   | (with_reducible refine LeO.bind ?_ (fun _ => ?_))
   | exact ih0 _ _ _ _ _ _ _
   | exact ih1 _ _ _ _ _ _ _ _
   | exact ih2 _ _ _ _ _ _ _
   | exact ih3 _ _ _ _ _ _ _ _ _ _ _ _
   | exact ih4 _ _ _ _ _ _ _ _ _ _
   | exact ih5 _ _ _ _ _ _ _ _ _ _
   | exact ih6 _ _ _ _ _ _ _ _ _ _
   | exact ih7 _ _ _ _ _ _
   | exact ih8 _ _ _ _ _ _ _ _ _ _ _
   | exact ih9 _ _ _ _ _ _ _ _ _ _ _
   | exact ih10 _ _ _ _ _ _ _ _ _ _ _ _
   | exact ih11 _ _ _ _ _ _ _ _ _ _ _ _
   | exact ih12 _ _ _ _ _ _ _ _ _ _ _ _ _
   | exact ih13 _ _ _ _ _ _ _ _ _ _ _ _
   | exact ih14 _ _ _ _ _ _ _ _ _ _ _ _ _ _ _
   | exact testamurref13_Few.mono _ _ _ _ _ _ _
   | exact testamurref13_FewInstances.mono _ _
   | exact LeO.none _
   | refine LeO.ite ?_ ?_
   | refine LeO.bind ?_ (fun _ => ?_)
  ·intro y0 y1 y2 y3 y4 y5 y6 y7 y8 y9 y10
   unfold testamurlaw13_DependsFirst.l0
   repeat' first
   | (with_reducible exact ih0 _ _ _ _ _ _ _)
   | (with_reducible exact ih1 _ _ _ _ _ _ _ _)
   | (with_reducible exact ih2 _ _ _ _ _ _ _)
   | (with_reducible exact ih3 _ _ _ _ _ _ _ _ _ _ _ _)
   | (with_reducible exact ih4 _ _ _ _ _ _ _ _ _ _)
   | (with_reducible exact ih5 _ _ _ _ _ _ _ _ _ _)
   | (with_reducible exact ih6 _ _ _ _ _ _ _ _ _ _)
   | (with_reducible exact ih7 _ _ _ _ _ _)
   | (with_reducible exact ih8 _ _ _ _ _ _ _ _ _ _ _)
   | (with_reducible exact ih9 _ _ _ _ _ _ _ _ _ _ _)
   | (with_reducible exact ih10 _ _ _ _ _ _ _ _ _ _ _ _)
   | (with_reducible exact ih11 _ _ _ _ _ _ _ _ _ _ _ _)
   | (with_reducible exact ih12 _ _ _ _ _ _ _ _ _ _ _ _ _)
   | (with_reducible exact ih13 _ _ _ _ _ _ _ _ _ _ _ _)
   | (with_reducible exact ih14 _ _ _ _ _ _ _ _ _ _ _ _ _ _ _)
   | (with_reducible exact testamurref13_Few.mono _ _ _ _ _ _ _)
   | (with_reducible exact testamurref13_FewInstances.mono _ _)
   | (with_reducible exact LeO.refl _)
   | (with_reducible exact LeO.none _)
   | (with_reducible refine LeO.ite ?_ ?_)
   | (with_reducible refine LeO.bind ?_ (fun _ => ?_))
   | exact ih0 _ _ _ _ _ _ _
   | exact ih1 _ _ _ _ _ _ _ _
   | exact ih2 _ _ _ _ _ _ _
   | exact ih3 _ _ _ _ _ _ _ _ _ _ _ _
   | exact ih4 _ _ _ _ _ _ _ _ _ _
   | exact ih5 _ _ _ _ _ _ _ _ _ _
   | exact ih6 _ _ _ _ _ _ _ _ _ _
   | exact ih7 _ _ _ _ _ _
   | exact ih8 _ _ _ _ _ _ _ _ _ _ _
   | exact ih9 _ _ _ _ _ _ _ _ _ _ _
   | exact ih10 _ _ _ _ _ _ _ _ _ _ _ _
   | exact ih11 _ _ _ _ _ _ _ _ _ _ _ _
   | exact ih12 _ _ _ _ _ _ _ _ _ _ _ _ _
   | exact ih13 _ _ _ _ _ _ _ _ _ _ _ _
   | exact ih14 _ _ _ _ _ _ _ _ _ _ _ _ _ _ _
   | exact testamurref13_Few.mono _ _ _ _ _ _ _
   | exact testamurref13_FewInstances.mono _ _
   | exact LeO.none _
   | refine LeO.ite ?_ ?_
   | refine LeO.bind ?_ (fun _ => ?_)
  ·intro y0 y1 y2 y3 y4 y5 y6 y7 y8 y9 y10
   unfold testamurlaw13_DependsFirst.j7
   repeat' first
   | (with_reducible exact ih0 _ _ _ _ _ _ _)
   | (with_reducible exact ih1 _ _ _ _ _ _ _ _)
   | (with_reducible exact ih2 _ _ _ _ _ _ _)
   | (with_reducible exact ih3 _ _ _ _ _ _ _ _ _ _ _ _)
   | (with_reducible exact ih4 _ _ _ _ _ _ _ _ _ _)
   | (with_reducible exact ih5 _ _ _ _ _ _ _ _ _ _)
   | (with_reducible exact ih6 _ _ _ _ _ _ _ _ _ _)
   | (with_reducible exact ih7 _ _ _ _ _ _)
   | (with_reducible exact ih8 _ _ _ _ _ _ _ _ _ _ _)
   | (with_reducible exact ih9 _ _ _ _ _ _ _ _ _ _ _)
   | (with_reducible exact ih10 _ _ _ _ _ _ _ _ _ _ _ _)
   | (with_reducible exact ih11 _ _ _ _ _ _ _ _ _ _ _ _)
   | (with_reducible exact ih12 _ _ _ _ _ _ _ _ _ _ _ _ _)
   | (with_reducible exact ih13 _ _ _ _ _ _ _ _ _ _ _ _)
   | (with_reducible exact ih14 _ _ _ _ _ _ _ _ _ _ _ _ _ _ _)
   | (with_reducible exact testamurref13_Few.mono _ _ _ _ _ _ _)
   | (with_reducible exact testamurref13_FewInstances.mono _ _)
   | (with_reducible exact LeO.refl _)
   | (with_reducible exact LeO.none _)
   | (with_reducible refine LeO.ite ?_ ?_)
   | (with_reducible refine LeO.bind ?_ (fun _ => ?_))
   | exact ih0 _ _ _ _ _ _ _
   | exact ih1 _ _ _ _ _ _ _ _
   | exact ih2 _ _ _ _ _ _ _
   | exact ih3 _ _ _ _ _ _ _ _ _ _ _ _
   | exact ih4 _ _ _ _ _ _ _ _ _ _
   | exact ih5 _ _ _ _ _ _ _ _ _ _
   | exact ih6 _ _ _ _ _ _ _ _ _ _
   | exact ih7 _ _ _ _ _ _
   | exact ih8 _ _ _ _ _ _ _ _ _ _ _
   | exact ih9 _ _ _ _ _ _ _ _ _ _ _
   | exact ih10 _ _ _ _ _ _ _ _ _ _ _ _
   | exact ih11 _ _ _ _ _ _ _ _ _ _ _ _
   | exact ih12 _ _ _ _ _ _ _ _ _ _ _ _ _
   | exact ih13 _ _ _ _ _ _ _ _ _ _ _ _
   | exact ih14 _ _ _ _ _ _ _ _ _ _ _ _ _ _ _
   | exact testamurref13_Few.mono _ _ _ _ _ _ _
   | exact testamurref13_FewInstances.mono _ _
   | exact LeO.none _
   | refine LeO.ite ?_ ?_
   | refine LeO.bind ?_ (fun _ => ?_)
  ·intro y0 y1 y2 y3 y4 y5 y6 y7 y8 y9 y10 y11
   unfold testamurlaw13_DependsFirst.l1
   repeat' first
   | (with_reducible exact ih0 _ _ _ _ _ _ _)
   | (with_reducible exact ih1 _ _ _ _ _ _ _ _)
   | (with_reducible exact ih2 _ _ _ _ _ _ _)
   | (with_reducible exact ih3 _ _ _ _ _ _ _ _ _ _ _ _)
   | (with_reducible exact ih4 _ _ _ _ _ _ _ _ _ _)
   | (with_reducible exact ih5 _ _ _ _ _ _ _ _ _ _)
   | (with_reducible exact ih6 _ _ _ _ _ _ _ _ _ _)
   | (with_reducible exact ih7 _ _ _ _ _ _)
   | (with_reducible exact ih8 _ _ _ _ _ _ _ _ _ _ _)
   | (with_reducible exact ih9 _ _ _ _ _ _ _ _ _ _ _)
   | (with_reducible exact ih10 _ _ _ _ _ _ _ _ _ _ _ _)
   | (with_reducible exact ih11 _ _ _ _ _ _ _ _ _ _ _ _)
   | (with_reducible exact ih12 _ _ _ _ _ _ _ _ _ _ _ _ _)
   | (with_reducible exact ih13 _ _ _ _ _ _ _ _ _ _ _ _)
   | (with_reducible exact ih14 _ _ _ _ _ _ _ _ _ _ _ _ _ _ _)
   | (with_reducible exact testamurref13_Few.mono _ _ _ _ _ _ _)
   | (with_reducible exact testamurref13_FewInstances.mono _ _)
   | (with_reducible exact LeO.refl _)
   | (with_reducible exact LeO.none _)
   | (with_reducible refine LeO.ite ?_ ?_)
   | (with_reducible refine LeO.bind ?_ (fun _ => ?_))
   | exact ih0 _ _ _ _ _ _ _
   | exact ih1 _ _ _ _ _ _ _ _
   | exact ih2 _ _ _ _ _ _ _
   | exact ih3 _ _ _ _ _ _ _ _ _ _ _ _
   | exact ih4 _ _ _ _ _ _ _ _ _ _
   | exact ih5 _ _ _ _ _ _ _ _ _ _
   | exact ih6 _ _ _ _ _ _ _ _ _ _
   | exact ih7 _ _ _ _ _ _
   | exact ih8 _ _ _ _ _ _ _ _ _ _ _
   | exact ih9 _ _ _ _ _ _ _ _ _ _ _
   | exact ih10 _ _ _ _ _ _ _ _ _ _ _ _
   | exact ih11 _ _ _ _ _ _ _ _ _ _ _ _
   | exact ih12 _ _ _ _ _ _ _ _ _ _ _ _ _
   | exact ih13 _ _ _ _ _ _ _ _ _ _ _ _
   | exact ih14 _ _ _ _ _ _ _ _ _ _ _ _ _ _ _
   | exact testamurref13_Few.mono _ _ _ _ _ _ _
   | exact testamurref13_FewInstances.mono _ _
   | exact LeO.none _
   | refine LeO.ite ?_ ?_
   | refine LeO.bind ?_ (fun _ => ?_)
  ·intro y0 y1 y2 y3 y4 y5 y6 y7 y8 y9 y10 y11
   unfold testamurlaw13_DependsFirst.j9
   repeat' first
   | (with_reducible exact ih0 _ _ _ _ _ _ _)
   | (with_reducible exact ih1 _ _ _ _ _ _ _ _)
   | (with_reducible exact ih2 _ _ _ _ _ _ _)
   | (with_reducible exact ih3 _ _ _ _ _ _ _ _ _ _ _ _)
   | (with_reducible exact ih4 _ _ _ _ _ _ _ _ _ _)
   | (with_reducible exact ih5 _ _ _ _ _ _ _ _ _ _)
   | (with_reducible exact ih6 _ _ _ _ _ _ _ _ _ _)
   | (with_reducible exact ih7 _ _ _ _ _ _)
   | (with_reducible exact ih8 _ _ _ _ _ _ _ _ _ _ _)
   | (with_reducible exact ih9 _ _ _ _ _ _ _ _ _ _ _)
   | (with_reducible exact ih10 _ _ _ _ _ _ _ _ _ _ _ _)
   | (with_reducible exact ih11 _ _ _ _ _ _ _ _ _ _ _ _)
   | (with_reducible exact ih12 _ _ _ _ _ _ _ _ _ _ _ _ _)
   | (with_reducible exact ih13 _ _ _ _ _ _ _ _ _ _ _ _)
   | (with_reducible exact ih14 _ _ _ _ _ _ _ _ _ _ _ _ _ _ _)
   | (with_reducible exact testamurref13_Few.mono _ _ _ _ _ _ _)
   | (with_reducible exact testamurref13_FewInstances.mono _ _)
   | (with_reducible exact LeO.refl _)
   | (with_reducible exact LeO.none _)
   | (with_reducible refine LeO.ite ?_ ?_)
   | (with_reducible refine LeO.bind ?_ (fun _ => ?_))
   | exact ih0 _ _ _ _ _ _ _
   | exact ih1 _ _ _ _ _ _ _ _
   | exact ih2 _ _ _ _ _ _ _
   | exact ih3 _ _ _ _ _ _ _ _ _ _ _ _
   | exact ih4 _ _ _ _ _ _ _ _ _ _
   | exact ih5 _ _ _ _ _ _ _ _ _ _
   | exact ih6 _ _ _ _ _ _ _ _ _ _
   | exact ih7 _ _ _ _ _ _
   | exact ih8 _ _ _ _ _ _ _ _ _ _ _
   | exact ih9 _ _ _ _ _ _ _ _ _ _ _
   | exact ih10 _ _ _ _ _ _ _ _ _ _ _ _
   | exact ih11 _ _ _ _ _ _ _ _ _ _ _ _
   | exact ih12 _ _ _ _ _ _ _ _ _ _ _ _ _
   | exact ih13 _ _ _ _ _ _ _ _ _ _ _ _
   | exact ih14 _ _ _ _ _ _ _ _ _ _ _ _ _ _ _
   | exact testamurref13_Few.mono _ _ _ _ _ _ _
   | exact testamurref13_FewInstances.mono _ _
   | exact LeO.none _
   | refine LeO.ite ?_ ?_
   | refine LeO.bind ?_ (fun _ => ?_)
  ·intro y0 y1 y2 y3 y4 y5 y6 y7 y8 y9 y10 y11 y12
   unfold testamurlaw13_DependsFirst.j10
   repeat' first
   | (with_reducible exact ih0 _ _ _ _ _ _ _)
   | (with_reducible exact ih1 _ _ _ _ _ _ _ _)
   | (with_reducible exact ih2 _ _ _ _ _ _ _)
   | (with_reducible exact ih3 _ _ _ _ _ _ _ _ _ _ _ _)
   | (with_reducible exact ih4 _ _ _ _ _ _ _ _ _ _)
   | (with_reducible exact ih5 _ _ _ _ _ _ _ _ _ _)
   | (with_reducible exact ih6 _ _ _ _ _ _ _ _ _ _)
   | (with_reducible exact ih7 _ _ _ _ _ _)
   | (with_reducible exact ih8 _ _ _ _ _ _ _ _ _ _ _)
   | (with_reducible exact ih9 _ _ _ _ _ _ _ _ _ _ _)
   | (with_reducible exact ih10 _ _ _ _ _ _ _ _ _ _ _ _)
   | (with_reducible exact ih11 _ _ _ _ _ _ _ _ _ _ _ _)
   | (with_reducible exact ih12 _ _ _ _ _ _ _ _ _ _ _ _ _)
   | (with_reducible exact ih13 _ _ _ _ _ _ _ _ _ _ _ _)
   | (with_reducible exact ih14 _ _ _ _ _ _ _ _ _ _ _ _ _ _ _)
   | (with_reducible exact testamurref13_Few.mono _ _ _ _ _ _ _)
   | (with_reducible exact testamurref13_FewInstances.mono _ _)
   | (with_reducible exact LeO.refl _)
   | (with_reducible exact LeO.none _)
   | (with_reducible refine LeO.ite ?_ ?_)
   | (with_reducible refine LeO.bind ?_ (fun _ => ?_))
   | exact ih0 _ _ _ _ _ _ _
   | exact ih1 _ _ _ _ _ _ _ _
   | exact ih2 _ _ _ _ _ _ _
   | exact ih3 _ _ _ _ _ _ _ _ _ _ _ _
   | exact ih4 _ _ _ _ _ _ _ _ _ _
   | exact ih5 _ _ _ _ _ _ _ _ _ _
   | exact ih6 _ _ _ _ _ _ _ _ _ _
   | exact ih7 _ _ _ _ _ _
   | exact ih8 _ _ _ _ _ _ _ _ _ _ _
   | exact ih9 _ _ _ _ _ _ _ _ _ _ _
   | exact ih10 _ _ _ _ _ _ _ _ _ _ _ _
   | exact ih11 _ _ _ _ _ _ _ _ _ _ _ _
   | exact ih12 _ _ _ _ _ _ _ _ _ _ _ _ _
   | exact ih13 _ _ _ _ _ _ _ _ _ _ _ _
   | exact ih14 _ _ _ _ _ _ _ _ _ _ _ _ _ _ _
   | exact testamurref13_Few.mono _ _ _ _ _ _ _
   | exact testamurref13_FewInstances.mono _ _
   | exact LeO.none _
   | refine LeO.ite ?_ ?_
   | refine LeO.bind ?_ (fun _ => ?_)
  ·intro y0 y1 y2 y3 y4 y5 y6 y7 y8 y9 y10 y11
   unfold testamurlaw13_DependsFirst.j11
   repeat' first
   | (with_reducible exact ih0 _ _ _ _ _ _ _)
   | (with_reducible exact ih1 _ _ _ _ _ _ _ _)
   | (with_reducible exact ih2 _ _ _ _ _ _ _)
   | (with_reducible exact ih3 _ _ _ _ _ _ _ _ _ _ _ _)
   | (with_reducible exact ih4 _ _ _ _ _ _ _ _ _ _)
   | (with_reducible exact ih5 _ _ _ _ _ _ _ _ _ _)
   | (with_reducible exact ih6 _ _ _ _ _ _ _ _ _ _)
   | (with_reducible exact ih7 _ _ _ _ _ _)
   | (with_reducible exact ih8 _ _ _ _ _ _ _ _ _ _ _)
   | (with_reducible exact ih9 _ _ _ _ _ _ _ _ _ _ _)
   | (with_reducible exact ih10 _ _ _ _ _ _ _ _ _ _ _ _)
   | (with_reducible exact ih11 _ _ _ _ _ _ _ _ _ _ _ _)
   | (with_reducible exact ih12 _ _ _ _ _ _ _ _ _ _ _ _ _)
   | (with_reducible exact ih13 _ _ _ _ _ _ _ _ _ _ _ _)
   | (with_reducible exact ih14 _ _ _ _ _ _ _ _ _ _ _ _ _ _ _)
   | (with_reducible exact testamurref13_Few.mono _ _ _ _ _ _ _)
   | (with_reducible exact testamurref13_FewInstances.mono _ _)
   | (with_reducible exact LeO.refl _)
   | (with_reducible exact LeO.none _)
   | (with_reducible refine LeO.ite ?_ ?_)
   | (with_reducible refine LeO.bind ?_ (fun _ => ?_))
   | exact ih0 _ _ _ _ _ _ _
   | exact ih1 _ _ _ _ _ _ _ _
   | exact ih2 _ _ _ _ _ _ _
   | exact ih3 _ _ _ _ _ _ _ _ _ _ _ _
   | exact ih4 _ _ _ _ _ _ _ _ _ _
   | exact ih5 _ _ _ _ _ _ _ _ _ _
   | exact ih6 _ _ _ _ _ _ _ _ _ _
   | exact ih7 _ _ _ _ _ _
   | exact ih8 _ _ _ _ _ _ _ _ _ _ _
   | exact ih9 _ _ _ _ _ _ _ _ _ _ _
   | exact ih10 _ _ _ _ _ _ _ _ _ _ _ _
   | exact ih11 _ _ _ _ _ _ _ _ _ _ _ _
   | exact ih12 _ _ _ _ _ _ _ _ _ _ _ _ _
   | exact ih13 _ _ _ _ _ _ _ _ _ _ _ _
   | exact ih14 _ _ _ _ _ _ _ _ _ _ _ _ _ _ _
   | exact testamurref13_Few.mono _ _ _ _ _ _ _
   | exact testamurref13_FewInstances.mono _ _
   | exact LeO.none _
   | refine LeO.ite ?_ ?_
   | refine LeO.bind ?_ (fun _ => ?_)
  ·intro y0 y1 y2 y3 y4 y5 y6 y7 y8 y9 y10 y11 y12 y13 y14
   unfold testamurlaw13_DependsFirst.l2
   repeat' first
   | (with_reducible exact ih0 _ _ _ _ _ _ _)
   | (with_reducible exact ih1 _ _ _ _ _ _ _ _)
   | (with_reducible exact ih2 _ _ _ _ _ _ _)
   | (with_reducible exact ih3 _ _ _ _ _ _ _ _ _ _ _ _)
   | (with_reducible exact ih4 _ _ _ _ _ _ _ _ _ _)
   | (with_reducible exact ih5 _ _ _ _ _ _ _ _ _ _)
   | (with_reducible exact ih6 _ _ _ _ _ _ _ _ _ _)
   | (with_reducible exact ih7 _ _ _ _ _ _)
   | (with_reducible exact ih8 _ _ _ _ _ _ _ _ _ _ _)
   | (with_reducible exact ih9 _ _ _ _ _ _ _ _ _ _ _)
   | (with_reducible exact ih10 _ _ _ _ _ _ _ _ _ _ _ _)
   | (with_reducible exact ih11 _ _ _ _ _ _ _ _ _ _ _ _)
   | (with_reducible exact ih12 _ _ _ _ _ _ _ _ _ _ _ _ _)
   | (with_reducible exact ih13 _ _ _ _ _ _ _ _ _ _ _ _)
   | (with_reducible exact ih14 _ _ _ _ _ _ _ _ _ _ _ _ _ _ _)
   | (with_reducible exact testamurref13_Few.mono _ _ _ _ _ _ _)
   | (with_reducible exact testamurref13_FewInstances.mono _ _)
   | (with_reducible exact LeO.refl _)
   | (with_reducible exact LeO.none _)
   | (with_reducible refine LeO.ite ?_ ?_)
   | (with_reducible refine LeO.bind ?_ (fun _ => ?_))
   | exact ih0 _ _ _ _ _ _ _
   | exact ih1 _ _ _ _ _ _ _ _
   | exact ih2 _ _ _ _ _ _ _
   | exact ih3 _ _ _ _ _ _ _ _ _ _ _ _
   | exact ih4 _ _ _ _ _ _ _ _ _ _
   | exact ih5 _ _ _ _ _ _ _ _ _ _
   | exact ih6 _ _ _ _ _ _ _ _ _ _
   | exact ih7 _ _ _ _ _ _
   | exact ih8 _ _ _ _ _ _ _ _ _ _ _
   | exact ih9 _ _ _ _ _ _ _ _ _ _ _
   | exact ih10 _ _ _ _ _ _ _ _ _ _ _ _
   | exact ih11 _ _ _ _ _ _ _ _ _ _ _ _
   | exact ih12 _ _ _ _ _ _ _ _ _ _ _ _ _
   | exact ih13 _ _ _ _ _ _ _ _ _ _ _ _
   | exact ih14 _ _ _ _ _ _ _ _ _ _ _ _ _ _ _
   | exact testamurref13_Few.mono _ _ _ _ _ _ _
   | exact testamurref13_FewInstances.mono _ _
   | exact LeO.none _
   | refine LeO.ite ?_ ?_
   | refine LeO.bind ?_ (fun _ => ?_)
theorem testamurlaw13_DependsFirst.mono : ∀ a0 a1 a2 a3 a4 a5 a6 k, LeO (testamurlaw13_DependsFirst.f k a0 a1 a2 a3 a4 a5 a6) (testamurlaw13_DependsFirst.f (k + 1) a0 a1 a2 a3 a4 a5 a6) := by
 intro a0 a1 a2 a3 a4 a5 a6 k
 obtain ⟨ih0, ih1, ih2, ih3, ih4, ih5, ih6, ih7, ih8, ih9, ih10, ih11, ih12, ih13, ih14⟩ := testamurlaw13_DependsFirst.mono_l k
 unfold testamurlaw13_DependsFirst.f
 repeat' first
   | (with_reducible exact ih0 _ _ _ _ _ _ _)
   | (with_reducible exact ih1 _ _ _ _ _ _ _ _)
   | (with_reducible exact ih2 _ _ _ _ _ _ _)
   | (with_reducible exact ih3 _ _ _ _ _ _ _ _ _ _ _ _)
   | (with_reducible exact ih4 _ _ _ _ _ _ _ _ _ _)
   | (with_reducible exact ih5 _ _ _ _ _ _ _ _ _ _)
   | (with_reducible exact ih6 _ _ _ _ _ _ _ _ _ _)
   | (with_reducible exact ih7 _ _ _ _ _ _)
   | (with_reducible exact ih8 _ _ _ _ _ _ _ _ _ _ _)
   | (with_reducible exact ih9 _ _ _ _ _ _ _ _ _ _ _)
   | (with_reducible exact ih10 _ _ _ _ _ _ _ _ _ _ _ _)
   | (with_reducible exact ih11 _ _ _ _ _ _ _ _ _ _ _ _)
   | (with_reducible exact ih12 _ _ _ _ _ _ _ _ _ _ _ _ _)
   | (with_reducible exact ih13 _ _ _ _ _ _ _ _ _ _ _ _)
   | (with_reducible exact ih14 _ _ _ _ _ _ _ _ _ _ _ _ _ _ _)
   | (with_reducible exact testamurref13_Few.mono _ _ _ _ _ _ _)
   | (with_reducible exact testamurref13_FewInstances.mono _ _)
   | (with_reducible exact LeO.refl _)
   | (with_reducible exact LeO.none _)
   | (with_reducible refine LeO.ite ?_ ?_)
   | (with_reducible refine LeO.bind ?_ (fun _ => ?_))
   | exact ih0 _ _ _ _ _ _ _
   | exact ih1 _ _ _ _ _ _ _ _
   | exact ih2 _ _ _ _ _ _ _
   | exact ih3 _ _ _ _ _ _ _ _ _ _ _ _
   | exact ih4 _ _ _ _ _ _ _ _ _ _
   | exact ih5 _ _ _ _ _ _ _ _ _ _
   | exact ih6 _ _ _ _ _ _ _ _ _ _
   | exact ih7 _ _ _ _ _ _
   | exact ih8 _ _ _ _ _ _ _ _ _ _ _
   | exact ih9 _ _ _ _ _ _ _ _ _ _ _
   | exact ih10 _ _ _ _ _ _ _ _ _ _ _ _
   | exact ih11 _ _ _ _ _ _ _ _ _ _ _ _
   | exact ih12 _ _ _ _ _ _ _ _ _ _ _ _ _
   | exact ih13 _ _ _ _ _ _ _ _ _ _ _ _
   | exact ih14 _ _ _ _ _ _ _ _ _ _ _ _ _ _ _
   | exact testamurref13_Few.mono _ _ _ _ _ _ _
   | exact testamurref13_FewInstances.mono _ _
   | exact LeO.none _
   | refine LeO.ite ?_ ?_
   | refine LeO.bind ?_ (fun _ => ?_)
def testamurlaw13_DependsFirst.T8 : Bool × List (List Nat × List Nat) := (true, [([], []), ([0], [0]), ([1], [1]), ([2], [2]), ([2], [2]), ([3, 4, 2], [2, 3, 4]), ([2, 5], [2, 5]), ([6, 2], [6]), ([7], [7]), ([7], [7]), ([9, 7], [7, 9]), ([8, 10, 7], [7, 8, 10]), ([7, 11], [7, 11]), ([12, 7], [12]), ([13], [13]), ([14, 13], [13, 14]), ([13, 15], [13, 15]), ([16, 13], [16]), ([17], [17]), ([17], [17]), ([19, 17], [17, 19]), ([20, 17], [17, 20]), ([18, 21, 17], [17, 18, 21]), ([17, 22], [17, 22]), ([23, 17], [23]), ([24], [24]), ([24], [24]), ([25, 26, 24], [24, 25, 26]), ([27, 24], [24, 27]), ([24], [24]), ([24], [24]), ([29, 30, 24], [24, 29, 30]), ([31, 24], [24, 31]), ([24], [24]), ([33, 24], [24, 33]), ([24], [24]), ([34, 35, 24], [24, 34, 35]), ([36, 24], [24, 36]), ([28, 32, 37, 24, 24], [24, 28, 32, 37]), ([38, 24], [24, 38]), ([24, 39], [24, 39])])
def testamurlaw13_DependsFirst.B8 : List Nat := [0, 1, 3, 7, 7, 31, 63, 127, 255, 255, 767, 2047, 4095, 8191, 16383, 32767, 65535, 131071, 262143, 262143, 786431, 1835007, 4194303, 8388607, 16777215, 33554431, 33554431, 134217727, 268435455, 33554431, 33554431, 1644167167, 3791650815, 33554431, 8623489023, 33554431, 60163096575, 128882573311, 274877906943, 549755813887, 1099511627775]
theorem testamurlaw13_DependsFirst.tab8 : rtab .any (opsOf Try.f8 8) = testamurlaw13_DependsFirst.T8 := by kernel_rfl
theorem testamurlaw13_DependsFirst.bits8 : waitsOk testamurlaw13_DependsFirst.T8.2 testamurlaw13_DependsFirst.B8 = true := by kernel_rfl
def testamurlaw13_DependsFirst.T20 : Bool × List (List Nat × List Nat) := (true, [([], []), ([], []), ([0, 1], [0, 1]), ([2], [2]), ([], []), ([], []), ([4, 5], [4, 5]), ([6], [6]), ([], []), ([3, 7, 8], [3, 7, 8])])
def testamurlaw13_DependsFirst.B20 : List Nat := [0, 0, 3, 7, 0, 0, 48, 112, 0, 511]
theorem testamurlaw13_DependsFirst.tab20 : rtab .any (opsOf Try.f8 20) = testamurlaw13_DependsFirst.T20 := by kernel_rfl
theorem testamurlaw13_DependsFirst.bits20 : waitsOk testamurlaw13_DependsFirst.T20.2 testamurlaw13_DependsFirst.B20 = true := by kernel_rfl
def testamurlaw13_DependsFirst.T26 : Bool × List (List Nat × List Nat) := (true, [([], []), ([], []), ([0, 1], [0, 1]), ([2], [2]), ([], []), ([], []), ([4, 5], [4, 5]), ([6], [6]), ([], []), ([3, 7, 8], [3, 7, 8])])
def testamurlaw13_DependsFirst.B26 : List Nat := [0, 0, 3, 7, 0, 0, 48, 112, 0, 511]
theorem testamurlaw13_DependsFirst.tab26 : rtab .any (opsOf Try.f8 26) = testamurlaw13_DependsFirst.T26 := by kernel_rfl
theorem testamurlaw13_DependsFirst.bits26 : waitsOk testamurlaw13_DependsFirst.T26.2 testamurlaw13_DependsFirst.B26 = true := by kernel_rfl
set_option maxHeartbeats 8000000 in
set_option maxRecDepth 100000 in
theorem testamurlaw13_DependsFirst.calls (k : Nat) (a0_0 : ByteArray) (a0_1 : ByteArray) (a0_2 : Int) (a0_3 : Int) (A0_4 : Option Addr) (c0_4 : Nat) (l0_4 : List (S97)) (A0_5 : Option Addr) (c0_5 : Nat) (l0_5 : List (S29)) (A1 : Option Addr) (c1 : Nat) (l1 : List (S49)) (r : Bool) (w : World) (hr0_4 : Kd.C k97 w A0_4 l0_4.length l0_4) (hc0_4 : l0_4.length ≤ c0_4) (hr0_5 : Kd.C k29 w A0_5 l0_5.length l0_5) (hc0_5 : l0_5.length ≤ c0_5) (hr1 : Kd.C k49 w A1 l1.length l1) (hc1 : l1.length ≤ c1) (h : testamurlaw13_DependsFirst.f k a0_0 a0_1 a0_2 a0_3 l0_4 l0_5 l1 = some r) :
  Calls Try.prog 8 #[.agg #[.string a0_0, .string a0_1, .int .i64 a0_2, .int .i64 a0_3, .slice A0_4 l0_4.length c0_4, .slice A0_5 l0_5.length c0_5], .slice A1 l1.length c1] w fun e w' => e = .returned (.bool r) ∧ Below w.heap.size w w' := by
 have hu25 := Try.underlying25
 have hu49 := Try.underlying49
 have hu29 := Try.underlying29
 have HR0_4 := Aside0.mk hr0_4
 have HC0_4 := Aside0.mk hc0_4
 clear hr0_4 hc0_4
 have HR0_5 := Aside0.mk hr0_5
 have HC0_5 := Aside0.mk hc0_5
 clear hr0_5 hc0_5
 have HR1 := Aside0.mk hr1
 have HC1 := Aside0.mk hc1
 clear hr1 hc1
 have HB := Aside0.mk (Below.refl w.heap.size w)
 have H : ((testamurlaw13_sane.f).bind fun t340 => (if t340 = true then (testamurlaw13_DependsFirst.j0 k l1 a0_0 a0_1 a0_2 a0_3 l0_4 l0_5) else (none))) = some r := h
 clear h
 replace H := Option.bind_eq_some_iff.mp H
 obtain ⟨t340, A30, H⟩ := H
 replace H : (if t340 = true then (testamurlaw13_DependsFirst.j0 k l1 a0_0 a0_1 a0_2 a0_3 l0_4 l0_5) else (none)) = some r := H
 have A3 := Aside0.mk A30
 clear A30
 have HC4 := Aside0.mk H
 clear H
 go_enter Try.func8, Try.ntmps8
 try simp only [List.append]
 go_upto_if 17 with (first | ((with_reducible refine gate_dst (N := 2) rfl ?_); (try (refine gate_guard (by rfl) ?_; dsimp only)); refine box_event ?hg (N := 2) ?hd (cs := #[.string a0_0, .string a0_1, .int .i64 a0_2, .int .i64 a0_3, .slice A0_4 l0_4.length c0_4, .slice A0_5 l0_5.length c0_5]) (t := 25) ?hr ?_; (case hd => rfl); (case hg => rfl); (case hr => first | (go_simp; done) | (go_simp; rfl)); intro gb339 hg w5 hbox hb; have n0_ := Aside0.mk (below_step (by repeat (first | (with_reducible first | exact HB.out | apply below_alloc | apply pw_below_drewN | apply below_drew1) | exact HB.out)) hb); have n1_ := Aside0.mk (hbox); have n2_ := Aside0.mk ((by rw [hg]; exact (below_size (by repeat (first | (with_reducible first | exact HB.out | apply below_alloc | apply pw_below_drewN | apply below_drew1) | exact HB.out))) : w.heap.size ≤ gb339)); have n3_ := Aside0.mk ((by rw [hg]; exact (below_size (by repeat (first | (with_reducible first | exact HB.out | apply below_alloc | apply pw_below_drewN | apply below_drew1) | exact HB.out))) : w.heap.size ≤ gb339)); clear HB; have HB := n0_; have BK339 := n1_; have GW339 := n2_; have GE339 := n3_; clear n0_ n1_ n2_ n3_; clear hb hbox hg) | ((with_reducible refine gate_callee (f := 10) rfl ?_); refine goesL_ (some 16) rfl rfl Try.func10 (by kernel_rfl) rfl #[] rfl (by (try simp only [List.map_toArray, List.map_cons, List.map_nil]); first | done | rfl | (simp only [List.length_drop, List.length_take]; rfl)) ?_; (with_reducible refine (testamurlaw13_sane.calls  t340 _ A3.out).mono ?_); rintro e w6 ⟨rfl, hb⟩; refine ⟨_, rfl, ?_⟩; have n0_ := Aside0.mk (blk_below (g := gb339) (o := .cells #[.string a0_0, .string a0_1, .int .i64 a0_2, .int .i64 a0_3, .slice A0_4 l0_4.length c0_4, .slice A0_5 l0_5.length c0_5] 25 (0, 0)) (by (with_reducible repeat (first | refine blk_drewN ?_ _ | refine blk_drew ?_ | refine blk_alloc ?_ _)); exact BK339.out) hb); have n1_ := Aside0.mk (below_step (by repeat (first | (with_reducible first | exact HB.out | apply below_alloc | apply pw_below_drewN | apply below_drew1 | refine below_set ?_ GE339.out) | exact HB.out)) hb); clear BK339; clear HB; have BK339 := n0_; have HB := n1_; clear n0_ n1_; (try clear hb); (try clear hb2); (try clear hk); (try clear hi)))
 (try simp only [Act.put, List.setIfInBounds_toArray, List.set_cons_zero, List.set_cons_succ])
 go_cut [] (fun wc => ∃ (kq : Nat), Aside0 (testamurlaw13_DependsFirst.j0 kq l1 a0_0 a0_1 a0_2 a0_3 l0_4 l0_5 = some r) ∧ Aside0 (kq ≤ k) ∧ Aside0 (wc.heap[gb339]? = some (.cells #[.string a0_0, .string a0_1, .int .i64 a0_2, .int .i64 a0_3, (.slice A0_4 l0_4.length c0_4), (.slice A0_5 l0_5.length c0_5)] 25 (0, 0))) ∧ Aside0 (Below w.heap.size w wc))
 case first =>
  have H := HC4.out
  clear HC4
  by_cases c7 : t340 = true
  ·subst c7
   have H1 : (testamurlaw13_DependsFirst.j0 k l1 a0_0 a0_1 a0_2 a0_3 l0_4 l0_5) = some r := by rw [if_pos rfl] at H; exact H
   clear H
   have H := H1
   clear H1
   have H' := Aside0.mk H
   clear H
   go_wp2
   go_meet
   case rel => exact ⟨_, H', ⟨by first | omega | exact Nat.le_refl _⟩, ⟨by (with_reducible repeat (first | refine blk_drewN ?_ _ | refine blk_drew ?_ | refine blk_alloc ?_ _)); exact BK339.out⟩, ⟨by repeat (first | (with_reducible first | exact HB.out | apply below_alloc | apply pw_below_drewN | apply below_drew1 | refine below_set ?_ GE339.out) | exact HB.out)⟩⟩
  ·replace c7 := Bool.eq_false_iff.mpr c7
   subst c7
   have H1 : (none) = some r := by rw [if_neg (show ¬ (false = true) by decide)] at H; exact H
   clear H
   have H := H1
   clear H1
   exact absurd H (by simp)
 case rest =>
  clear HC4
  try clear c1
  try clear p2
  try clear c7
  obtain ⟨kq, HA, HJ3, BK339, HB⟩ := hcut
  cases kq with
  | zero => exact absurd HA.out (by simp [testamurlaw13_DependsFirst.j0])
  | succ kj3 =>
   have H := HA.out
   clear HA
   simp only [testamurlaw13_DependsFirst.j0] at H
   have HC8 := Aside0.mk H
   clear H
   go_upto_region 3 with (fail)
   go_cut [25] (fun v25 wc => ∃ (kq : Nat) (x25_7 : Bool), v25 = .bool x25_7 ∧ Aside0 (testamurlaw13_DependsFirst.j1 kq l1 x25_7 a0_0 a0_1 a0_2 a0_3 l0_4 l0_5 = some r) ∧ Aside0 (kq ≤ kj3) ∧ Aside0 (wc.heap[gb339]? = some (.cells #[.string a0_0, .string a0_1, .int .i64 a0_2, .int .i64 a0_3, (.slice A0_4 l0_4.length c0_4), (.slice A0_5 l0_5.length c0_5)] 25 (0, 0))) ∧ Aside0 (Below w.heap.size w wc))
   case first =>
    have H := HC8.out
    clear HC8
    replace H := Option.bind_eq_some_iff.mp H
    obtain ⟨t341, A90, H⟩ := H
    replace H : (if t341 = true then ((testamurref13_FewInstances.f kj3 l1).bind fun t342 => (testamurlaw13_DependsFirst.j1 kj3 l1 (!t342) a0_0 a0_1 a0_2 a0_3 l0_4 l0_5)) else (testamurlaw13_DependsFirst.j1 kj3 l1 true a0_0 a0_1 a0_2 a0_3 l0_4 l0_5)) = some r := H
    have A9 := Aside0.mk A90
    clear A90
    by_cases c10 : t341 = true
    ·subst c10
     have H1 : ((testamurref13_FewInstances.f kj3 l1).bind fun t342 => (testamurlaw13_DependsFirst.j1 kj3 l1 (!t342) a0_0 a0_1 a0_2 a0_3 l0_4 l0_5)) = some r := by rw [if_pos rfl] at H; exact H
     clear H
     have H := H1
     clear H1
     replace H := Option.bind_eq_some_iff.mp H
     obtain ⟨t342, A110, H⟩ := H
     replace H : (testamurlaw13_DependsFirst.j1 kj3 l1 (!t342) a0_0 a0_1 a0_2 a0_3 l0_4 l0_5) = some r := H
     have A11 := Aside0.mk A110
     clear A110
     have H' := Aside0.mk H
     clear H
     have hcz12_0 : wc.cell? ⟨gb339, 0, none⟩ = some (.string a0_0) := (blk_cell BK339.out 0).trans rfl
     have hcz12_1 : wc.cell? ⟨gb339, 1, none⟩ = some (.string a0_1) := (blk_cell BK339.out 1).trans rfl
     have hcz12_2 : wc.cell? ⟨gb339, 2, none⟩ = some (.int .i64 a0_2) := (blk_cell BK339.out 2).trans rfl
     have hcz12_3 : wc.cell? ⟨gb339, 3, none⟩ = some (.int .i64 a0_3) := (blk_cell BK339.out 3).trans rfl
     have hcz12_4 : wc.cell? ⟨gb339, 4, none⟩ = some (.slice A0_4 l0_4.length c0_4) := (blk_cell BK339.out 4).trans rfl
     have hcz12_5 : wc.cell? ⟨gb339, 5, none⟩ = some (.slice A0_5 l0_5.length c0_5) := (blk_cell BK339.out 5).trans rfl
     have hfz12_0 := blk_frozen BK339.out 0
     have hfz12_1 := blk_frozen BK339.out 1
     have hfz12_2 := blk_frozen BK339.out 2
     have hfz12_3 := blk_frozen BK339.out 3
     have hfz12_4 := blk_frozen BK339.out 4
     have hfz12_5 := blk_frozen BK339.out 5
     go_wp2_with ((with_reducible refine gate_callee (f := 11) rfl ?_); refine Aside0.out (p := _) ?_)
     refine ⟨?_⟩
     refine goesL_ (some 19) rfl rfl Try.func11 (by kernel_rfl) rfl #[.agg #[.string a0_0, .string a0_1, .int .i64 a0_2, .int .i64 a0_3, .slice A0_4 l0_4.length c0_4, .slice A0_5 l0_5.length c0_5]] rfl (by (try simp only [List.map_toArray, List.map_cons, List.map_nil]); first | done | rfl | (simp only [List.length_drop, List.length_take]; rfl)) ?_
     (with_reducible refine (testamurref13_Few.calls kj3 a0_0 a0_1 a0_2 a0_3 _ _ l0_4 _ _ l0_5 true _ ?side1 ?side2 ?side3 ?side4 A9.out).mono ?_)
     (case side1 => repeat (first | exact (Kd.C_below HR0_4.out HB.out) | (with_reducible refine Kd.C_alloc ?_ _) | (with_reducible refine Kd.C_drewN ?_ _) | (with_reducible refine Kd.C_drew ?_)))
     (case side2 => exact HC0_4.out)
     (case side3 => repeat (first | exact (Kd.C_below HR0_5.out HB.out) | (with_reducible refine Kd.C_alloc ?_ _) | (with_reducible refine Kd.C_drewN ?_ _) | (with_reducible refine Kd.C_drew ?_)))
     (case side4 => exact HC0_5.out)
     rintro e w13 ⟨rfl, hb⟩
     refine ⟨_, rfl, ?_⟩
     have n0_ := Aside0.mk (blk_below (g := gb339) (o := .cells #[.string a0_0, .string a0_1, .int .i64 a0_2, .int .i64 a0_3, .slice A0_4 l0_4.length c0_4, .slice A0_5 l0_5.length c0_5] 25 (0, 0)) (by (with_reducible repeat (first | refine blk_drewN ?_ _ | refine blk_drew ?_ | refine blk_alloc ?_ _)); exact BK339.out) hb)
     have n1_ := Aside0.mk (below_step (by repeat (first | (with_reducible first | exact HB.out | apply below_alloc | apply pw_below_drewN | apply below_drew1 | refine below_set ?_ GE339.out) | exact HB.out)) hb)
     clear BK339
     clear HB
     have BK339 := n0_
     have HB := n1_
     clear n0_ n1_
     (try clear hb)
     (try clear hb2)
     (try clear hk)
     (try clear hi)
     go_wp2_with (go_at_call 19; (with_reducible refine (testamurref13_FewInstances.calls kj3 _ _ l1 t342 _ ?side1 ?side2 A11.out).mono ?_); (case side1 => repeat (first | exact (Kd.C_below HR1.out HB.out) | (with_reducible refine Kd.C_alloc ?_ _) | (with_reducible refine Kd.C_drewN ?_ _) | (with_reducible refine Kd.C_drew ?_))); (case side2 => exact HC1.out); refine Aside0.out (p := _) ?_)
     refine ⟨?_⟩
     rintro e w' ⟨rfl, ⟨nd, rfl⟩⟩
     go_wp2
     go_meet
     case rel => exact ⟨_, (!t342), (by first | rfl | (simp; done) | (simp [*]; done)), H', ⟨by have := HJ3.out; first | omega | exact Nat.le_refl _⟩, ⟨by (with_reducible repeat (first | refine blk_drewN ?_ _ | refine blk_drew ?_ | refine blk_alloc ?_ _)); exact BK339.out⟩, ⟨by repeat (first | (with_reducible first | exact HB.out | apply below_alloc | apply pw_below_drewN | apply below_drew1 | refine below_set ?_ GE339.out) | exact HB.out)⟩⟩
    ·replace c10 := Bool.eq_false_iff.mpr c10
     subst c10
     have H1 : (testamurlaw13_DependsFirst.j1 kj3 l1 true a0_0 a0_1 a0_2 a0_3 l0_4 l0_5) = some r := by rw [if_neg (show ¬ (false = true) by decide)] at H; exact H
     clear H
     have H := H1
     clear H1
     have H' := Aside0.mk H
     clear H
     have hcz14_0 : wc.cell? ⟨gb339, 0, none⟩ = some (.string a0_0) := (blk_cell BK339.out 0).trans rfl
     have hcz14_1 : wc.cell? ⟨gb339, 1, none⟩ = some (.string a0_1) := (blk_cell BK339.out 1).trans rfl
     have hcz14_2 : wc.cell? ⟨gb339, 2, none⟩ = some (.int .i64 a0_2) := (blk_cell BK339.out 2).trans rfl
     have hcz14_3 : wc.cell? ⟨gb339, 3, none⟩ = some (.int .i64 a0_3) := (blk_cell BK339.out 3).trans rfl
     have hcz14_4 : wc.cell? ⟨gb339, 4, none⟩ = some (.slice A0_4 l0_4.length c0_4) := (blk_cell BK339.out 4).trans rfl
     have hcz14_5 : wc.cell? ⟨gb339, 5, none⟩ = some (.slice A0_5 l0_5.length c0_5) := (blk_cell BK339.out 5).trans rfl
     have hfz14_0 := blk_frozen BK339.out 0
     have hfz14_1 := blk_frozen BK339.out 1
     have hfz14_2 := blk_frozen BK339.out 2
     have hfz14_3 := blk_frozen BK339.out 3
     have hfz14_4 := blk_frozen BK339.out 4
     have hfz14_5 := blk_frozen BK339.out 5
     go_wp2_with ((with_reducible refine gate_callee (f := 11) rfl ?_); refine Aside0.out (p := _) ?_)
     refine ⟨?_⟩
     refine goesL_ (some 19) rfl rfl Try.func11 (by kernel_rfl) rfl #[.agg #[.string a0_0, .string a0_1, .int .i64 a0_2, .int .i64 a0_3, .slice A0_4 l0_4.length c0_4, .slice A0_5 l0_5.length c0_5]] rfl (by (try simp only [List.map_toArray, List.map_cons, List.map_nil]); first | done | rfl | (simp only [List.length_drop, List.length_take]; rfl)) ?_
     (with_reducible refine (testamurref13_Few.calls kj3 a0_0 a0_1 a0_2 a0_3 _ _ l0_4 _ _ l0_5 false _ ?side1 ?side2 ?side3 ?side4 A9.out).mono ?_)
     (case side1 => repeat (first | exact (Kd.C_below HR0_4.out HB.out) | (with_reducible refine Kd.C_alloc ?_ _) | (with_reducible refine Kd.C_drewN ?_ _) | (with_reducible refine Kd.C_drew ?_)))
     (case side2 => exact HC0_4.out)
     (case side3 => repeat (first | exact (Kd.C_below HR0_5.out HB.out) | (with_reducible refine Kd.C_alloc ?_ _) | (with_reducible refine Kd.C_drewN ?_ _) | (with_reducible refine Kd.C_drew ?_)))
     (case side4 => exact HC0_5.out)
     rintro e w15 ⟨rfl, hb⟩
     refine ⟨_, rfl, ?_⟩
     have n0_ := Aside0.mk (blk_below (g := gb339) (o := .cells #[.string a0_0, .string a0_1, .int .i64 a0_2, .int .i64 a0_3, .slice A0_4 l0_4.length c0_4, .slice A0_5 l0_5.length c0_5] 25 (0, 0)) (by (with_reducible repeat (first | refine blk_drewN ?_ _ | refine blk_drew ?_ | refine blk_alloc ?_ _)); exact BK339.out) hb)
     have n1_ := Aside0.mk (below_step (by repeat (first | (with_reducible first | exact HB.out | apply below_alloc | apply pw_below_drewN | apply below_drew1 | refine below_set ?_ GE339.out) | exact HB.out)) hb)
     clear BK339
     clear HB
     have BK339 := n0_
     have HB := n1_
     clear n0_ n1_
     (try clear hb)
     (try clear hb2)
     (try clear hk)
     (try clear hi)
     go_wp2
     go_meet
     case rel => exact ⟨_, (true), (by first | rfl | (simp; done) | (simp [*]; done)), H', ⟨by have := HJ3.out; first | omega | exact Nat.le_refl _⟩, ⟨by (with_reducible repeat (first | refine blk_drewN ?_ _ | refine blk_drew ?_ | refine blk_alloc ?_ _)); exact BK339.out⟩, ⟨by repeat (first | (with_reducible first | exact HB.out | apply below_alloc | apply pw_below_drewN | apply below_drew1 | refine below_set ?_ GE339.out) | exact HB.out)⟩⟩
   case rest =>
    clear HC8
    try clear c1
    try clear p2
    try clear c7
    try clear c8
    try clear c10
    try clear c11
    try clear hcz12_0
    try clear hcz12_1
    try clear hcz12_2
    try clear hcz12_3
    try clear hcz12_4
    try clear hcz12_5
    try clear hcz14_0
    try clear hcz14_1
    try clear hcz14_2
    try clear hcz14_3
    try clear hcz14_4
    try clear hcz14_5
    try clear hfz12_0
    try clear hfz12_1
    try clear hfz12_2
    try clear hfz12_3
    try clear hfz12_4
    try clear hfz12_5
    try clear hfz14_0
    try clear hfz14_1
    try clear hfz14_2
    try clear hfz14_3
    try clear hfz14_4
    try clear hfz14_5
    try clear p2
    obtain ⟨kq, x25_7, rfl, HA, HJ7, BK339, HB⟩ := hcut
    cases kq with
    | zero => exact absurd HA.out (by simp [testamurlaw13_DependsFirst.j1])
    | succ kj7 =>
     have H := HA.out
     clear HA
     simp only [testamurlaw13_DependsFirst.j1] at H
     have HC16 := Aside0.mk H
     clear H
     go_upto_if 25 with (fail)
     go_cut [] (fun wc => ∃ (kq : Nat), Aside0 (testamurlaw13_DependsFirst.j2 kq l1 a0_0 a0_1 a0_2 a0_3 l0_4 l0_5 = some r) ∧ Aside0 (kq ≤ kj7) ∧ Aside0 (wc.heap[gb339]? = some (.cells #[.string a0_0, .string a0_1, .int .i64 a0_2, .int .i64 a0_3, (.slice A0_4 l0_4.length c0_4), (.slice A0_5 l0_5.length c0_5)] 25 (0, 0))) ∧ Aside0 (Below w.heap.size w wc))
     case first =>
      have H := HC16.out
      clear HC16
      by_cases c17 : x25_7 = true
      ·subst c17
       have H1 : (some true) = some r := by rw [if_pos rfl] at H; exact H
       clear H
       have H := H1
       clear H1
       obtain rfl := Option.some.inj H
       go_wp2
       go_ret
       exact ⟨by first | rfl | (simp [errW_none, errW_some] <;> rfl) | (simp [*, errW_none, errW_some] <;> rfl), by repeat (first | (with_reducible first | exact HB.out | apply below_alloc | apply pw_below_drewN | apply below_drew1 | refine below_set ?_ GE339.out) | exact HB.out)⟩
      ·replace c17 := Bool.eq_false_iff.mpr c17
       subst c17
       have H1 : (testamurlaw13_DependsFirst.j2 kj7 l1 a0_0 a0_1 a0_2 a0_3 l0_4 l0_5) = some r := by rw [if_neg (show ¬ (false = true) by decide)] at H; exact H
       clear H
       have H := H1
       clear H1
       have H' := Aside0.mk H
       clear H
       go_wp2
       go_meet
       case rel => exact ⟨_, H', ⟨by have := HJ3.out; have := HJ7.out; first | omega | exact Nat.le_refl _⟩, ⟨by (with_reducible repeat (first | refine blk_drewN ?_ _ | refine blk_drew ?_ | refine blk_alloc ?_ _)); exact BK339.out⟩, ⟨by repeat (first | (with_reducible first | exact HB.out | apply below_alloc | apply pw_below_drewN | apply below_drew1 | refine below_set ?_ GE339.out) | exact HB.out)⟩⟩
     case rest =>
      clear HC16
      try clear c1
      try clear p2
      try clear c7
      try clear c8
      try clear c10
      try clear c11
      try clear c17
      try clear hcz12_0
      try clear hcz12_1
      try clear hcz12_2
      try clear hcz12_3
      try clear hcz12_4
      try clear hcz12_5
      try clear hcz14_0
      try clear hcz14_1
      try clear hcz14_2
      try clear hcz14_3
      try clear hcz14_4
      try clear hcz14_5
      try clear hfz12_0
      try clear hfz12_1
      try clear hfz12_2
      try clear hfz12_3
      try clear hfz12_4
      try clear hfz12_5
      try clear hfz14_0
      try clear hfz14_1
      try clear hfz14_2
      try clear hfz14_3
      try clear hfz14_4
      try clear hfz14_5
      try clear p2
      obtain ⟨kq, HA, HJ15, BK339, HB⟩ := hcut
      cases kq with
      | zero => exact absurd HA.out (by simp [testamurlaw13_DependsFirst.j2])
      | succ kj15 =>
       have H := HA.out
       clear HA
       simp only [testamurlaw13_DependsFirst.j2] at H
       replace H := Option.bind_eq_some_iff.mp H
       obtain ⟨⟨t343, t344, t345, t346, t347⟩, A180, H⟩ := H
       replace H : (if t347 = 0 then (testamurlaw13_DependsFirst.j3 kj15 l1 t343 t344 t345 t346 (!t346) a0_0 a0_1 a0_2 a0_3 l0_4 l0_5) else (testamurlaw13_DependsFirst.j3 kj15 l1 t343 t344 t345 t346 true a0_0 a0_1 a0_2 a0_3 l0_4 l0_5)) = some r := H
       have A18 := Aside0.mk A180
       clear A180
       have HC19 := Aside0.mk H
       clear H
       have hcz20_0 : wc.cell? ⟨gb339, 0, none⟩ = some (.string a0_0) := (blk_cell BK339.out 0).trans rfl
       have hcz20_1 : wc.cell? ⟨gb339, 1, none⟩ = some (.string a0_1) := (blk_cell BK339.out 1).trans rfl
       have hcz20_2 : wc.cell? ⟨gb339, 2, none⟩ = some (.int .i64 a0_2) := (blk_cell BK339.out 2).trans rfl
       have hcz20_3 : wc.cell? ⟨gb339, 3, none⟩ = some (.int .i64 a0_3) := (blk_cell BK339.out 3).trans rfl
       have hcz20_4 : wc.cell? ⟨gb339, 4, none⟩ = some (.slice A0_4 l0_4.length c0_4) := (blk_cell BK339.out 4).trans rfl
       have hcz20_5 : wc.cell? ⟨gb339, 5, none⟩ = some (.slice A0_5 l0_5.length c0_5) := (blk_cell BK339.out 5).trans rfl
       have hfz20_0 := blk_frozen BK339.out 0
       have hfz20_1 := blk_frozen BK339.out 1
       have hfz20_2 := blk_frozen BK339.out 2
       have hfz20_3 := blk_frozen BK339.out 3
       have hfz20_4 := blk_frozen BK339.out 4
       have hfz20_5 := blk_frozen BK339.out 5
       go_upto_region 6 with (first | ((with_reducible refine gate_callee (f := 20) rfl ?_); refine goesL_ (some 29) rfl rfl Try.func20 (by kernel_rfl) rfl #[.agg #[.string a0_0, .string a0_1, .int .i64 a0_2, .int .i64 a0_3, .slice A0_4 l0_4.length c0_4, .slice A0_5 l0_5.length c0_5], .slice A1 l1.length c1] rfl (by (try simp only [List.map_toArray, List.map_cons, List.map_nil]); first | done | rfl | (simp only [List.length_drop, List.length_take]; rfl)) ?_; (with_reducible refine (depends_Broken.calls a0_0 a0_1 a0_2 a0_3 _ _ l0_4 _ _ l0_5 _ _ l1 t343 t344 t345 t346 t347 _ ?side1 ?side2 ?side3 ?side4 ?side5 ?side6 A18.out).mono ?_); (case side1 => repeat (first | exact (Kd.C_below HR0_4.out HB.out) | (with_reducible refine Kd.C_alloc ?_ _) | (with_reducible refine Kd.C_drewN ?_ _) | (with_reducible refine Kd.C_drew ?_))); (case side2 => exact HC0_4.out); (case side3 => repeat (first | exact (Kd.C_below HR0_5.out HB.out) | (with_reducible refine Kd.C_alloc ?_ _) | (with_reducible refine Kd.C_drewN ?_ _) | (with_reducible refine Kd.C_drew ?_))); (case side4 => exact HC0_5.out); (case side5 => repeat (first | exact (Kd.C_below HR1.out HB.out) | (with_reducible refine Kd.C_alloc ?_ _) | (with_reducible refine Kd.C_drewN ?_ _) | (with_reducible refine Kd.C_drew ?_))); (case side6 => exact HC1.out); rintro e w21 ⟨rfl, hb⟩; refine ⟨_, rfl, ?_⟩; have n0_ := Aside0.mk (blk_below (g := gb339) (o := .cells #[.string a0_0, .string a0_1, .int .i64 a0_2, .int .i64 a0_3, .slice A0_4 l0_4.length c0_4, .slice A0_5 l0_5.length c0_5] 25 (0, 0)) (by (with_reducible repeat (first | refine blk_drewN ?_ _ | refine blk_drew ?_ | refine blk_alloc ?_ _)); exact BK339.out) hb); have n1_ := Aside0.mk (below_step (by repeat (first | (with_reducible first | exact HB.out | apply below_alloc | apply pw_below_drewN | apply below_drew1 | refine below_set ?_ GE339.out) | exact HB.out)) hb); clear BK339; clear HB; have BK339 := n0_; have HB := n1_; clear n0_ n1_; (try clear hb); (try clear hb2); (try clear hk); (try clear hi)))
       (try simp only [Act.put, List.setIfInBounds_toArray, List.set_cons_zero, List.set_cons_succ])
       go_cut [40] (fun v40 wc => ∃ (kq : Nat) (x40_18 : Bool), v40 = .bool x40_18 ∧ Aside0 (testamurlaw13_DependsFirst.j3 kq l1 t343 t344 t345 t346 x40_18 a0_0 a0_1 a0_2 a0_3 l0_4 l0_5 = some r) ∧ Aside0 (kq ≤ kj15) ∧ Aside0 (wc.heap[gb339]? = some (.cells #[.string a0_0, .string a0_1, .int .i64 a0_2, .int .i64 a0_3, (.slice A0_4 l0_4.length c0_4), (.slice A0_5 l0_5.length c0_5)] 25 (0, 0))) ∧ Aside0 (Below w.heap.size w wc))
       case first =>
        have H := HC19.out
        clear HC19
        by_cases c22 : t347 = 0
        ·rw [if_pos c22] at H
         have c22b0 : (t347 == 0) = true := beq_iff_eq.mpr c22
         have c22b1 : (t347 != 0) = false := bne_eq_false_iff_eq.mpr c22
         clear c22
         (first | rw [c22b0] | (simp only [i64_w, i32_w]; rw [c22b0]) | skip)
         have H' := Aside0.mk H
         clear H
         go_wp2
         go_meet
         case rel => exact ⟨_, (!t346), (by first | rfl | (simp; done) | (simp [*]; done)), H', ⟨by have := HJ3.out; have := HJ7.out; have := HJ15.out; first | omega | exact Nat.le_refl _⟩, ⟨by (with_reducible repeat (first | refine blk_drewN ?_ _ | refine blk_drew ?_ | refine blk_alloc ?_ _)); exact BK339.out⟩, ⟨by repeat (first | (with_reducible first | exact HB.out | apply below_alloc | apply pw_below_drewN | apply below_drew1 | refine below_set ?_ GE339.out) | exact HB.out)⟩⟩
        ·rw [if_neg c22] at H
         have c22b0 : (t347 == 0) = false := beq_eq_false_iff_ne.mpr c22
         have c22b1 : (t347 != 0) = true := bne_iff_ne.mpr c22
         (first | rw [c22b0] | (simp only [i64_w, i32_w]; rw [c22b0]) | skip)
         have H' := Aside0.mk H
         clear H
         go_wp2
         go_meet
         case rel => exact ⟨_, (true), (by first | rfl | (simp; done) | (simp [*]; done)), H', ⟨by have := HJ3.out; have := HJ7.out; have := HJ15.out; first | omega | exact Nat.le_refl _⟩, ⟨by (with_reducible repeat (first | refine blk_drewN ?_ _ | refine blk_drew ?_ | refine blk_alloc ?_ _)); exact BK339.out⟩, ⟨by repeat (first | (with_reducible first | exact HB.out | apply below_alloc | apply pw_below_drewN | apply below_drew1 | refine below_set ?_ GE339.out) | exact HB.out)⟩⟩
       case rest =>
        clear HC19
        try clear c1
        try clear c2
        try clear p2
        try clear c7
        try clear c8
        try clear c10
        try clear c11
        try clear c17
        try clear c20
        try clear c22
        try clear c22b0
        try clear c22b1
        try clear hcz12_0
        try clear hcz12_1
        try clear hcz12_2
        try clear hcz12_3
        try clear hcz12_4
        try clear hcz12_5
        try clear hcz14_0
        try clear hcz14_1
        try clear hcz14_2
        try clear hcz14_3
        try clear hcz14_4
        try clear hcz14_5
        try clear hcz20_0
        try clear hcz20_1
        try clear hcz20_2
        try clear hcz20_3
        try clear hcz20_4
        try clear hcz20_5
        try clear hfz12_0
        try clear hfz12_1
        try clear hfz12_2
        try clear hfz12_3
        try clear hfz12_4
        try clear hfz12_5
        try clear hfz14_0
        try clear hfz14_1
        try clear hfz14_2
        try clear hfz14_3
        try clear hfz14_4
        try clear hfz14_5
        try clear hfz20_0
        try clear hfz20_1
        try clear hfz20_2
        try clear hfz20_3
        try clear hfz20_4
        try clear hfz20_5
        try clear p2
        obtain ⟨kq, x40_18, rfl, HA, HJ18, BK339, HB⟩ := hcut
        cases kq with
        | zero => exact absurd HA.out (by simp [testamurlaw13_DependsFirst.j3])
        | succ kj18 =>
         have H := HA.out
         clear HA
         simp only [testamurlaw13_DependsFirst.j3] at H
         have HC23 := Aside0.mk H
         clear H
         go_upto_if 40 with (fail)
         go_cut [] (fun wc => ∃ (kq : Nat), Aside0 (testamurlaw13_DependsFirst.j4 kq l1 t343 t344 t345 a0_0 a0_1 a0_2 a0_3 l0_4 l0_5 = some r) ∧ Aside0 (kq ≤ kj18) ∧ Aside0 (wc.heap[gb339]? = some (.cells #[.string a0_0, .string a0_1, .int .i64 a0_2, .int .i64 a0_3, (.slice A0_4 l0_4.length c0_4), (.slice A0_5 l0_5.length c0_5)] 25 (0, 0))) ∧ Aside0 (Below w.heap.size w wc))
         case first =>
          have H := HC23.out
          clear HC23
          by_cases c24 : x40_18 = true
          ·subst c24
           have H1 : (if t343 = 0 then (if t344 = 0 then (if t345 = 0 then (some (!t346)) else (none)) else (none)) else (none)) = some r := by rw [if_pos rfl] at H; exact H
           clear H
           have H := H1
           clear H1
           by_cases c25 : t343 = 0
           ·rw [if_pos c25] at H
            have c25b0 : (t343 == 0) = true := beq_iff_eq.mpr c25
            have c25b1 : (t343 != 0) = false := bne_eq_false_iff_eq.mpr c25
            clear c25
            (first | rw [c25b0] | (simp only [i64_w, i32_w]; rw [c25b0]) | skip)
            by_cases c26 : t344 = 0
            ·rw [if_pos c26] at H
             have c26b0 : (t344 == 0) = true := beq_iff_eq.mpr c26
             have c26b1 : (t344 != 0) = false := bne_eq_false_iff_eq.mpr c26
             clear c26
             by_cases c27 : t345 = 0
             ·rw [if_pos c27] at H
              have c27b0 : (t345 == 0) = true := beq_iff_eq.mpr c27
              have c27b1 : (t345 != 0) = false := bne_eq_false_iff_eq.mpr c27
              clear c27
              obtain rfl := Option.some.inj H
              go_wp2
              go_ret
              exact ⟨by first | rfl | (simp [errW_none, errW_some] <;> rfl) | (simp [*, errW_none, errW_some] <;> rfl), by repeat (first | (with_reducible first | exact HB.out | apply below_alloc | apply pw_below_drewN | apply below_drew1 | refine below_set ?_ GE339.out) | exact HB.out)⟩
             ·rw [if_neg c27] at H
              exact absurd H (by simp)
            ·rw [if_neg c26] at H
             exact absurd H (by simp)
           ·rw [if_neg c25] at H
            exact absurd H (by simp)
          ·replace c24 := Bool.eq_false_iff.mpr c24
           subst c24
           have H1 : (testamurlaw13_DependsFirst.j4 kj18 l1 t343 t344 t345 a0_0 a0_1 a0_2 a0_3 l0_4 l0_5) = some r := by rw [if_neg (show ¬ (false = true) by decide)] at H; exact H
           clear H
           have H := H1
           clear H1
           have H' := Aside0.mk H
           clear H
           go_wp2
           go_meet
           case rel => exact ⟨_, H', ⟨by have := HJ3.out; have := HJ7.out; have := HJ15.out; have := HJ18.out; first | omega | exact Nat.le_refl _⟩, ⟨by (with_reducible repeat (first | refine blk_drewN ?_ _ | refine blk_drew ?_ | refine blk_alloc ?_ _)); exact BK339.out⟩, ⟨by repeat (first | (with_reducible first | exact HB.out | apply below_alloc | apply pw_below_drewN | apply below_drew1 | refine below_set ?_ GE339.out) | exact HB.out)⟩⟩
         case rest =>
          clear HC23
          try clear c1
          try clear c2
          try clear p2
          try clear c7
          try clear c8
          try clear c10
          try clear c11
          try clear c17
          try clear c20
          try clear c22
          try clear c22b0
          try clear c22b1
          try clear c24
          try clear c25
          try clear c25b0
          try clear c25b1
          try clear c26
          try clear c26b0
          try clear c26b1
          try clear c27
          try clear c27b0
          try clear c27b1
          try clear hcz12_0
          try clear hcz12_1
          try clear hcz12_2
          try clear hcz12_3
          try clear hcz12_4
          try clear hcz12_5
          try clear hcz14_0
          try clear hcz14_1
          try clear hcz14_2
          try clear hcz14_3
          try clear hcz14_4
          try clear hcz14_5
          try clear hcz20_0
          try clear hcz20_1
          try clear hcz20_2
          try clear hcz20_3
          try clear hcz20_4
          try clear hcz20_5
          try clear hfz12_0
          try clear hfz12_1
          try clear hfz12_2
          try clear hfz12_3
          try clear hfz12_4
          try clear hfz12_5
          try clear hfz14_0
          try clear hfz14_1
          try clear hfz14_2
          try clear hfz14_3
          try clear hfz14_4
          try clear hfz14_5
          try clear hfz20_0
          try clear hfz20_1
          try clear hfz20_2
          try clear hfz20_3
          try clear hfz20_4
          try clear hfz20_5
          try clear p2
          obtain ⟨kq, HA, HJ22, BK339, HB⟩ := hcut
          cases kq with
          | zero => exact absurd HA.out (by simp [testamurlaw13_DependsFirst.j4])
          | succ kj22 =>
           have H := HA.out
           clear HA
           simp only [testamurlaw13_DependsFirst.j4] at H
           by_cases c28 : t343 < 0
           ·rw [if_pos c28] at H
            exact absurd H (by simp)
           ·rw [if_neg c28] at H
            have c28b0 : decide (t343 < 0) = false := decide_eq_false c28
            clear c28
            by_cases c29 : t343 ≥ t344
            ·rw [if_pos c29] at H
             exact absurd H (by simp)
            ·rw [if_neg c29] at H
             have c29b0 : decide (t344 ≤ t343) = false := decide_eq_false c29
             clear c29
             by_cases c30 : t344 ≥ (l1.length : Int)
             ·rw [if_pos c30] at H
              exact absurd H (by simp)
             ·rw [if_neg c30] at H
              have c30b0 : decide ((l1.length : Int) ≤ t344) = false := decide_eq_false c30
              clear c30
              by_cases c31 : t345 < 0
              ·rw [if_pos c31] at H
               exact absurd H (by simp)
              ·rw [if_neg c31] at H
               have c31b0 : decide (t345 < 0) = false := decide_eq_false c31
               clear c31
               by_cases c32 : t345 ≥ (l0_5.length : Int)
               ·rw [if_pos c32] at H
                exact absurd H (by simp)
               ·rw [if_neg c32] at H
                have c32b0 : decide ((l0_5.length : Int) ≤ t345) = false := decide_eq_false c32
                clear c32
                by_cases c33 : 0 ≤ t343
                ·rw [if_pos c33] at H
                 have c33b0 : decide (0 ≤ t343) = true := decide_eq_true c33
                 clear c33
                 by_cases c34 : t343 < (l1.length : Int)
                 ·rw [if_pos c34] at H
                  have c34b0 : decide (t343 < (l1.length : Int)) = true := decide_eq_true c34
                  clear c34
                  by_cases c35 : 0 ≤ t344
                  ·rw [if_pos c35] at H
                   have c35b0 : decide (0 ≤ t344) = true := decide_eq_true c35
                   clear c35
                   by_cases c36 : t344 < (l1.length : Int)
                   ·rw [if_pos c36] at H
                    have c36b0 : decide (t344 < (l1.length : Int)) = true := decide_eq_true c36
                    clear c36
                    by_cases c37 : 0 ≤ t345
                    ·rw [if_pos c37] at H
                     have c37b0 : decide (0 ≤ t345) = true := decide_eq_true c37
                     clear c37
                     by_cases c38 : t345 < (l0_5.length : Int)
                     ·rw [if_pos c38] at H
                      have c38b0 : decide (t345 < (l0_5.length : Int)) = true := decide_eq_true c38
                      clear c38
                      replace H := Option.bind_eq_some_iff.mp H
                      obtain ⟨t357, A390, H⟩ := H
                      replace H : (if t357 = true then (testamurlaw13_DependsFirst.j5 kj22 l1 t343 t344 t345 a0_0 a0_1 a0_2 a0_3 l0_4 l0_5) else (none)) = some r := H
                      have A39 := Aside0.mk A390
                      clear A390
                      have HC40 := Aside0.mk H
                      clear H
                      try go_wp2
                      have n0_ := Aside0.mk (blk_drew BK339.out)
                      have n1_ := Aside0.mk (below_drew1 HB.out)
                      clear BK339
                      clear HB
                      have BK339 := n0_
                      have HB := n1_
                      clear n0_ n1_
                      have p350 : 0 ≤ (t343 : Int) := of_decide_eq_true (by first | (with_reducible assumption) | assumption)
                      have q350 : t343 < (l1.length : Int) := of_decide_eq_true (by first | (with_reducible assumption) | assumption)
                      obtain ⟨ad350, A350_3, c350_3, e350, hx350_0, hx350_1, hx350_2, hx350_3, hl350_3, hi350_3⟩ := at_T49 HR1.out t343 p350 q350
                      have hw350_3 := hx350_3
                      have hw350_2 := hx350_2
                      have hw350_1 := hx350_1
                      have hw350_0 := hx350_0
                      cases e350
                      replace hx350_0 := (HB.out.cell (World.block_lt_of_cell? w _ hx350_0)).trans hx350_0
                      replace hx350_1 := (HB.out.cell (World.block_lt_of_cell? w _ hx350_1)).trans hx350_1
                      replace hx350_2 := (HB.out.cell (World.block_lt_of_cell? w _ hx350_2)).trans hx350_2
                      replace hx350_3 := (HB.out.cell (World.block_lt_of_cell? w _ hx350_3)).trans hx350_3
                      have HR350_3 := Aside0.mk hi350_3
                      have HC350_3 := Aside0.mk hl350_3
                      clear hi350_3 hl350_3
                      replace p350 := eq_true p350
                      replace q350 := eq_true q350
                      have p353 : 0 ≤ (t344 : Int) := of_decide_eq_true (by first | (with_reducible assumption) | assumption)
                      have q353 : t344 < (l1.length : Int) := of_decide_eq_true (by first | (with_reducible assumption) | assumption)
                      obtain ⟨ad353, A353_3, c353_3, e353, hx353_0, hx353_1, hx353_2, hx353_3, hl353_3, hi353_3⟩ := at_T49 HR1.out t344 p353 q353
                      have hw353_3 := hx353_3
                      have hw353_2 := hx353_2
                      have hw353_1 := hx353_1
                      have hw353_0 := hx353_0
                      obtain rfl : ad350 = ad353 := (by injection e353)
                      replace hx353_0 := (HB.out.cell (World.block_lt_of_cell? w _ hx353_0)).trans hx353_0
                      replace hx353_1 := (HB.out.cell (World.block_lt_of_cell? w _ hx353_1)).trans hx353_1
                      replace hx353_2 := (HB.out.cell (World.block_lt_of_cell? w _ hx353_2)).trans hx353_2
                      replace hx353_3 := (HB.out.cell (World.block_lt_of_cell? w _ hx353_3)).trans hx353_3
                      have HR353_3 := Aside0.mk hi353_3
                      have HC353_3 := Aside0.mk hl353_3
                      clear hi353_3 hl353_3
                      replace p353 := eq_true p353
                      replace q353 := eq_true q353
                      have p356 : 0 ≤ (t345 : Int) := of_decide_eq_true (by first | (with_reducible assumption) | assumption)
                      have q356 : t345 < (l0_5.length : Int) := of_decide_eq_true (by first | (with_reducible assumption) | assumption)
                      obtain ⟨ad356, A356_0, c356_0, A356_2, c356_2, e356, hx356_0, hx356_1, hx356_2, hx356_3, hl356_0, hi356_0, hl356_2, hi356_2⟩ := at_T29 HR0_5.out t345 p356 q356
                      have hw356_3 := hx356_3
                      have hw356_2 := hx356_2
                      have hw356_1 := hx356_1
                      have hw356_0 := hx356_0
                      cases e356
                      replace hx356_0 := (HB.out.cell (World.block_lt_of_cell? w _ hx356_0)).trans hx356_0
                      replace hx356_1 := (HB.out.cell (World.block_lt_of_cell? w _ hx356_1)).trans hx356_1
                      replace hx356_2 := (HB.out.cell (World.block_lt_of_cell? w _ hx356_2)).trans hx356_2
                      replace hx356_3 := (HB.out.cell (World.block_lt_of_cell? w _ hx356_3)).trans hx356_3
                      have HR356_0 := Aside0.mk hi356_0
                      have HC356_0 := Aside0.mk hl356_0
                      clear hi356_0 hl356_0
                      have HR356_2 := Aside0.mk hi356_2
                      have HC356_2 := Aside0.mk hl356_2
                      clear hi356_2 hl356_2
                      replace p356 := eq_true p356
                      replace q356 := eq_true q356
                      refine start_ (n := 41) (S := fun w' => w'.cell? ⟨gb339, 0, none⟩ = some (.string a0_0) ∧ w'.cell? ⟨gb339, 1, none⟩ = some (.string a0_1) ∧ w'.cell? ⟨gb339, 2, none⟩ = some (.int .i64 a0_2) ∧ w'.cell? ⟨gb339, 3, none⟩ = some (.int .i64 a0_3) ∧ w'.cell? ⟨gb339, 4, none⟩ = some (.slice A0_4 l0_4.length c0_4) ∧ w'.cell? ⟨gb339, 5, none⟩ = some (.slice (some ad356) l0_5.length c0_5) ∧ w'.cell? (ad350.add ((t343).toNat * 4)) = some (.int .i64 ((rd_T49 l1 t343).f0)) ∧ w'.cell? ⟨(ad350.add ((t343).toNat * 4)).block, (ad350.add ((t343).toNat * 4)).off + 1, none⟩ = some (.int .i64 ((rd_T49 l1 t343).f1)) ∧ w'.cell? ⟨(ad350.add ((t343).toNat * 4)).block, (ad350.add ((t343).toNat * 4)).off + 2, none⟩ = some (.int .i64 ((rd_T49 l1 t343).f2)) ∧ w'.cell? ⟨(ad350.add ((t343).toNat * 4)).block, (ad350.add ((t343).toNat * 4)).off + 3, none⟩ = some (.slice A350_3 ((rd_T49 l1 t343).f3).length c350_3) ∧ w'.cell? (ad350.add ((t344).toNat * 4)) = some (.int .i64 ((rd_T49 l1 t344).f0)) ∧ w'.cell? ⟨(ad350.add ((t344).toNat * 4)).block, (ad350.add ((t344).toNat * 4)).off + 1, none⟩ = some (.int .i64 ((rd_T49 l1 t344).f1)) ∧ w'.cell? ⟨(ad350.add ((t344).toNat * 4)).block, (ad350.add ((t344).toNat * 4)).off + 2, none⟩ = some (.int .i64 ((rd_T49 l1 t344).f2)) ∧ w'.cell? ⟨(ad350.add ((t344).toNat * 4)).block, (ad350.add ((t344).toNat * 4)).off + 3, none⟩ = some (.slice A353_3 ((rd_T49 l1 t344).f3).length c353_3) ∧ w'.cell? (ad356.add ((t345).toNat * 4)) = some (.slice A356_0 ((rd_T29 l0_5 t345).f0).length c356_0) ∧ w'.cell? ⟨(ad356.add ((t345).toNat * 4)).block, (ad356.add ((t345).toNat * 4)).off + 1, none⟩ = some (.string ((rd_T29 l0_5 t345).f1)) ∧ w'.cell? ⟨(ad356.add ((t345).toNat * 4)).block, (ad356.add ((t345).toNat * 4)).off + 2, none⟩ = some (.slice A356_2 ((rd_T29 l0_5 t345).f2).length c356_2) ∧ w'.cell? ⟨(ad356.add ((t345).toNat * 4)).block, (ad356.add ((t345).toNat * 4)).off + 3, none⟩ = some (.int .i64 ((rd_T29 l0_5 t345).f3))) (ds := []) #[false, false, false, false, false, false, false, false, false, false, false, false, false, false, false, false, false, false, false, false, false, false, false, false, false, false, false, false, false, false, false, false, false, false, false, false, false, false, false, false, false] (by kernel_rfl) rfl rfl ⟨(blk_cell BK339.out 0).trans rfl, (blk_cell BK339.out 1).trans rfl, (blk_cell BK339.out 2).trans rfl, (blk_cell BK339.out 3).trans rfl, (blk_cell BK339.out 4).trans rfl, (blk_cell BK339.out 5).trans rfl, ((HB.out.cell (World.block_lt_of_cell? w _ hw350_0)).trans hw350_0), ((HB.out.cell (World.block_lt_of_cell? w _ hw350_1)).trans hw350_1), ((HB.out.cell (World.block_lt_of_cell? w _ hw350_2)).trans hw350_2), ((HB.out.cell (World.block_lt_of_cell? w _ hw350_3)).trans hw350_3), ((HB.out.cell (World.block_lt_of_cell? w _ hw353_0)).trans hw353_0), ((HB.out.cell (World.block_lt_of_cell? w _ hw353_1)).trans hw353_1), ((HB.out.cell (World.block_lt_of_cell? w _ hw353_2)).trans hw353_2), ((HB.out.cell (World.block_lt_of_cell? w _ hw353_3)).trans hw353_3), ((HB.out.cell (World.block_lt_of_cell? w _ hw356_0)).trans hw356_0), ((HB.out.cell (World.block_lt_of_cell? w _ hw356_1)).trans hw356_1), ((HB.out.cell (World.block_lt_of_cell? w _ hw356_2)).trans hw356_2), ((HB.out.cell (World.block_lt_of_cell? w _ hw356_3)).trans hw356_3)⟩ (fun hHeld => ?_); refine with_tabW testamurlaw13_DependsFirst.tab8 testamurlaw13_DependsFirst.bits8 (fun HT_ HW_ => ?_)
                      generalize wc.drew = w41 at BK339 HB HR350_3 HR353_3 HR356_0 HR356_2 hx350_0 hx350_1 hx350_2 hx350_3 hx353_0 hx353_1 hx353_2 hx353_3 hx356_0 hx356_1 hx356_2 hx356_3 hHeld ⊢
                      refine pure_ (i := 0) (N := some 55) (v := ?_) (a' := ?_) #[true, false, false, false, false, false, false, false, false, false, false, false, false, false, false, false, false, false, false, false, false, false, false, false, false, false, false, false, false, false, false, false, false, false, false, false, false, false, false, false, false] rfl rfl (any_of HT_.out (by kernel_rfl)) (fun _ _ _ h => h) (Or.inl ⟨by rfl, ?_⟩) ?_ ?_
                      rotate_left
                      ·intro w'
                       go_simp
                       with_reducible rfl
                      rotate_left
                      ·simp only [Act.put, List.setIfInBounds_toArray, List.set_cons_zero, List.set_cons_succ, i64_w, i32_w]
                       rfl
                      refine pure_ (i := 1) (N := some 56) (v := ?_) (a' := ?_) #[true, true, false, false, false, false, false, false, false, false, false, false, false, false, false, false, false, false, false, false, false, false, false, false, false, false, false, false, false, false, false, false, false, false, false, false, false, false, false, false, false] rfl rfl (any_of HT_.out (by kernel_rfl)) (fun _ _ _ h => h) (Or.inl ⟨by rfl, ?_⟩) ?_ ?_
                      rotate_left
                      ·intro w'
                       go_simp
                       with_reducible rfl
                      rotate_left
                      ·simp only [Act.put, List.setIfInBounds_toArray, List.set_cons_zero, List.set_cons_succ, i64_w, i32_w]
                       rfl
                      refine pure_ (i := 2) (N := some 57) (v := ?_) (a' := ?_) #[true, true, true, false, false, false, false, false, false, false, false, false, false, false, false, false, false, false, false, false, false, false, false, false, false, false, false, false, false, false, false, false, false, false, false, false, false, false, false, false, false] rfl rfl (any_of HT_.out (by kernel_rfl)) (fun _ _ _ h => h) (Or.inl ⟨by rfl, ?_⟩) ?_ ?_
                      rotate_left
                      ·intro w'
                       go_simp
                       with_reducible rfl
                      rotate_left
                      ·simp only [Act.put, List.setIfInBounds_toArray, List.set_cons_zero, List.set_cons_succ, i64_w, i32_w]
                       rfl
                      refine pure_ (i := 3) (N := some 58) (v := ?_) (a' := ?_) #[true, true, true, true, false, false, false, false, false, false, false, false, false, false, false, false, false, false, false, false, false, false, false, false, false, false, false, false, false, false, false, false, false, false, false, false, false, false, false, false, false] rfl rfl (any_of HT_.out (by kernel_rfl)) (fun _ _ _ h => h) (Or.inl ⟨by rfl, ?_⟩) ?_ ?_
                      rotate_left
                      ·intro w'
                       go_simp
                       with_reducible rfl
                      rotate_left
                      ·simp only [Act.put, List.setIfInBounds_toArray, List.set_cons_zero, List.set_cons_succ, i64_w, i32_w]
                       rfl
                      refine pure_ (i := 4) (N := some 59) (v := ?_) (a' := ?_) #[true, true, true, true, true, false, false, false, false, false, false, false, false, false, false, false, false, false, false, false, false, false, false, false, false, false, false, false, false, false, false, false, false, false, false, false, false, false, false, false, false] rfl rfl (any_of HT_.out (by kernel_rfl)) (fun _ _ _ h => h) (Or.inl ⟨by rfl, ?_⟩) ?_ ?_
                      rotate_left
                      ·intro w'
                       go_simp
                       with_reducible rfl
                      rotate_left
                      ·simp only [Act.put, List.setIfInBounds_toArray, List.set_cons_zero, List.set_cons_succ, i64_w, i32_w]
                       rfl
                      refine pure_ (i := 5) (N := some 60) (v := ?_) (a' := ?_) #[true, true, true, true, true, true, false, false, false, false, false, false, false, false, false, false, false, false, false, false, false, false, false, false, false, false, false, false, false, false, false, false, false, false, false, false, false, false, false, false, false] rfl rfl (any_of HT_.out (by kernel_rfl)) (fun _ _ _ h => h) (Or.inl ⟨by rfl, ?_⟩) ?_ ?_
                      rotate_left
                      ·intro w'
                       go_simp
                       with_reducible rfl
                      rotate_left
                      ·simp only [Act.put, List.setIfInBounds_toArray, List.set_cons_zero, List.set_cons_succ, i64_w, i32_w]
                       rfl
                      refine pure_ (i := 6) (N := some 61) (v := ?_) (a' := ?_) #[true, true, true, true, true, true, true, false, false, false, false, false, false, false, false, false, false, false, false, false, false, false, false, false, false, false, false, false, false, false, false, false, false, false, false, false, false, false, false, false, false] rfl rfl (any_of HT_.out (by kernel_rfl)) (fun _ _ _ h => h) (Or.inl ⟨by rfl, ?_⟩) ?_ ?_
                      rotate_left
                      ·intro w'
                       go_simp
                       with_reducible rfl
                      rotate_left
                      ·simp only [Act.put, List.setIfInBounds_toArray, List.set_cons_zero, List.set_cons_succ, i64_w, i32_w]
                       rfl
                      refine pure_ (i := 7) (N := some 62) (v := ?_) (a' := ?_) #[true, true, true, true, true, true, true, true, false, false, false, false, false, false, false, false, false, false, false, false, false, false, false, false, false, false, false, false, false, false, false, false, false, false, false, false, false, false, false, false, false] rfl rfl (any_of HT_.out (by kernel_rfl)) (fun _ _ _ h => h) (Or.inl ⟨by rfl, ?_⟩) ?_ ?_
                      rotate_left
                      ·intro w'
                       go_simp
                       with_reducible rfl
                      rotate_left
                      ·simp only [Act.put, List.setIfInBounds_toArray, List.set_cons_zero, List.set_cons_succ, i64_w, i32_w]
                       rfl
                      refine pure_ (i := 8) (N := some 63) (v := ?_) (a' := ?_) #[true, true, true, true, true, true, true, true, true, false, false, false, false, false, false, false, false, false, false, false, false, false, false, false, false, false, false, false, false, false, false, false, false, false, false, false, false, false, false, false, false] rfl rfl (any_of HT_.out (by kernel_rfl)) (fun _ _ _ h => h) (Or.inl ⟨by rfl, ?_⟩) ?_ ?_
                      rotate_left
                      ·intro w'
                       go_simp
                       with_reducible rfl
                      rotate_left
                      ·simp only [Act.put, List.setIfInBounds_toArray, List.set_cons_zero, List.set_cons_succ, i64_w, i32_w]
                       rfl
                      refine pure_ (i := 9) (N := some 64) (v := ?_) (a' := ?_) #[true, true, true, true, true, true, true, true, true, true, false, false, false, false, false, false, false, false, false, false, false, false, false, false, false, false, false, false, false, false, false, false, false, false, false, false, false, false, false, false, false] rfl rfl (any_of HT_.out (by kernel_rfl)) (fun _ _ _ h => h) (Or.inl ⟨by rfl, ?_⟩) ?_ ?_
                      rotate_left
                      ·intro w'
                       go_simp
                       with_reducible rfl
                      rotate_left
                      ·simp only [Act.put, List.setIfInBounds_toArray, List.set_cons_zero, List.set_cons_succ, i64_w, i32_w]
                       rfl
                      refine pure_ (i := 10) (N := some 65) (v := ?_) (a' := ?_) #[true, true, true, true, true, true, true, true, true, true, true, false, false, false, false, false, false, false, false, false, false, false, false, false, false, false, false, false, false, false, false, false, false, false, false, false, false, false, false, false, false] rfl rfl (any_of HT_.out (by kernel_rfl)) (fun _ _ _ h => h) (Or.inl ⟨by rfl, ?_⟩) ?_ ?_
                      rotate_left
                      ·intro w'
                       go_simp
                       with_reducible rfl
                      rotate_left
                      ·simp only [Act.put, List.setIfInBounds_toArray, List.set_cons_zero, List.set_cons_succ, i64_w, i32_w]
                       rfl
                      refine pure_ (i := 11) (N := some 66) (v := ?_) (a' := ?_) #[true, true, true, true, true, true, true, true, true, true, true, true, false, false, false, false, false, false, false, false, false, false, false, false, false, false, false, false, false, false, false, false, false, false, false, false, false, false, false, false, false] rfl rfl (any_of HT_.out (by kernel_rfl)) (fun _ _ _ h => h) (Or.inl ⟨by rfl, ?_⟩) ?_ ?_
                      rotate_left
                      ·intro w'
                       go_simp
                       with_reducible rfl
                      rotate_left
                      ·simp only [Act.put, List.setIfInBounds_toArray, List.set_cons_zero, List.set_cons_succ, i64_w, i32_w]
                       rfl
                      refine pure_ (i := 12) (N := some 67) (v := ?_) (a' := ?_) #[true, true, true, true, true, true, true, true, true, true, true, true, true, false, false, false, false, false, false, false, false, false, false, false, false, false, false, false, false, false, false, false, false, false, false, false, false, false, false, false, false] rfl rfl (any_of HT_.out (by kernel_rfl)) (fun _ _ _ h => h) (Or.inl ⟨by rfl, ?_⟩) ?_ ?_
                      rotate_left
                      ·intro w'
                       go_simp
                       with_reducible rfl
                      rotate_left
                      ·simp only [Act.put, List.setIfInBounds_toArray, List.set_cons_zero, List.set_cons_succ, i64_w, i32_w]
                       rfl
                      refine pure_ (i := 13) (N := some 68) (v := ?_) (a' := ?_) #[true, true, true, true, true, true, true, true, true, true, true, true, true, true, false, false, false, false, false, false, false, false, false, false, false, false, false, false, false, false, false, false, false, false, false, false, false, false, false, false, false] rfl rfl (any_of HT_.out (by kernel_rfl)) (fun _ _ _ h => h) (Or.inl ⟨by rfl, ?_⟩) ?_ ?_
                      rotate_left
                      ·intro w'
                       go_simp
                       with_reducible rfl
                      rotate_left
                      ·simp only [Act.put, List.setIfInBounds_toArray, List.set_cons_zero, List.set_cons_succ, i64_w, i32_w]
                       rfl
                      refine pure_ (i := 14) (N := some 69) (v := ?_) (a' := ?_) #[true, true, true, true, true, true, true, true, true, true, true, true, true, true, true, false, false, false, false, false, false, false, false, false, false, false, false, false, false, false, false, false, false, false, false, false, false, false, false, false, false] rfl rfl (any_of HT_.out (by kernel_rfl)) (fun _ _ _ h => h) (Or.inl ⟨by rfl, ?_⟩) ?_ ?_
                      rotate_left
                      ·intro w'
                       go_simp
                       with_reducible rfl
                      rotate_left
                      ·simp only [Act.put, List.setIfInBounds_toArray, List.set_cons_zero, List.set_cons_succ, i64_w, i32_w]
                       rfl
                      refine pure_ (i := 15) (N := some 70) (v := ?_) (a' := ?_) #[true, true, true, true, true, true, true, true, true, true, true, true, true, true, true, true, false, false, false, false, false, false, false, false, false, false, false, false, false, false, false, false, false, false, false, false, false, false, false, false, false] rfl rfl (any_of HT_.out (by kernel_rfl)) (fun _ _ _ h => h) (Or.inl ⟨by rfl, ?_⟩) ?_ ?_
                      rotate_left
                      ·intro w'
                       go_simp
                       with_reducible rfl
                      rotate_left
                      ·simp only [Act.put, List.setIfInBounds_toArray, List.set_cons_zero, List.set_cons_succ, i64_w, i32_w]
                       rfl
                      refine pure_ (i := 16) (N := some 71) (v := ?_) (a' := ?_) #[true, true, true, true, true, true, true, true, true, true, true, true, true, true, true, true, true, false, false, false, false, false, false, false, false, false, false, false, false, false, false, false, false, false, false, false, false, false, false, false, false] rfl rfl (any_of HT_.out (by kernel_rfl)) (fun _ _ _ h => h) (Or.inl ⟨by rfl, ?_⟩) ?_ ?_
                      rotate_left
                      ·intro w'
                       go_simp
                       with_reducible rfl
                      rotate_left
                      ·simp only [Act.put, List.setIfInBounds_toArray, List.set_cons_zero, List.set_cons_succ, i64_w, i32_w]
                       rfl
                      refine pure_ (i := 17) (N := some 72) (v := ?_) (a' := ?_) #[true, true, true, true, true, true, true, true, true, true, true, true, true, true, true, true, true, true, false, false, false, false, false, false, false, false, false, false, false, false, false, false, false, false, false, false, false, false, false, false, false] rfl rfl (any_of HT_.out (by kernel_rfl)) (fun _ _ _ h => h) (Or.inl ⟨by rfl, ?_⟩) ?_ ?_
                      rotate_left
                      ·intro w'
                       go_simp
                       with_reducible rfl
                      rotate_left
                      ·simp only [Act.put, List.setIfInBounds_toArray, List.set_cons_zero, List.set_cons_succ, i64_w, i32_w]
                       rfl
                      refine pure_ (i := 18) (N := some 73) (v := ?_) (a' := ?_) #[true, true, true, true, true, true, true, true, true, true, true, true, true, true, true, true, true, true, true, false, false, false, false, false, false, false, false, false, false, false, false, false, false, false, false, false, false, false, false, false, false] rfl rfl (any_of HT_.out (by kernel_rfl)) (fun _ _ _ h => h) (Or.inl ⟨by rfl, ?_⟩) ?_ ?_
                      rotate_left
                      ·intro w'
                       go_simp
                       with_reducible rfl
                      rotate_left
                      ·simp only [Act.put, List.setIfInBounds_toArray, List.set_cons_zero, List.set_cons_succ, i64_w, i32_w]
                       rfl
                      refine pure_ (i := 19) (N := some 74) (v := ?_) (a' := ?_) #[true, true, true, true, true, true, true, true, true, true, true, true, true, true, true, true, true, true, true, true, false, false, false, false, false, false, false, false, false, false, false, false, false, false, false, false, false, false, false, false, false] rfl rfl (any_of HT_.out (by kernel_rfl)) (fun _ _ _ h => h) (Or.inl ⟨by rfl, ?_⟩) ?_ ?_
                      rotate_left
                      ·intro w'
                       go_simp
                       with_reducible rfl
                      rotate_left
                      ·simp only [Act.put, List.setIfInBounds_toArray, List.set_cons_zero, List.set_cons_succ, i64_w, i32_w]
                       rfl
                      refine take_ (i := 20) (N := some 75) (v := ?_) (a' := ?_) #[true, true, true, true, true, true, true, true, true, true, true, true, true, true, true, true, true, true, true, true, true, false, false, false, false, false, false, false, false, false, false, false, false, false, false, false, false, false, false, false, false] rfl rfl (take_ofW HT_.out HW_.out (by kernel_rfl)) (fun _ _ _ h => h) (Or.inl ⟨by rfl, ?_⟩) hHeld ?_ ?_
                      rotate_left
                      ·rintro w' ⟨s0, s1, s2, s3, s4, s5, s6, s7, s8, s9, s10, s11, s12, s13, s14, s15, s16, s17⟩
                       go_simp
                       with_reducible rfl
                      rotate_left
                      ·simp only [Act.put, List.setIfInBounds_toArray, List.set_cons_zero, List.set_cons_succ, i64_w, i32_w]
                       rfl
                      refine pure_ (i := 21) (N := some 76) (v := ?_) (a' := ?_) #[true, true, true, true, true, true, true, true, true, true, true, true, true, true, true, true, true, true, true, true, true, true, false, false, false, false, false, false, false, false, false, false, false, false, false, false, false, false, false, false, false] rfl rfl (any_of HT_.out (by kernel_rfl)) (fun _ _ _ h => h) (Or.inl ⟨by rfl, ?_⟩) ?_ ?_
                      rotate_left
                      ·intro w'
                       go_simp
                       with_reducible rfl
                      rotate_left
                      ·simp only [Act.put, List.setIfInBounds_toArray, List.set_cons_zero, List.set_cons_succ, i64_w, i32_w]
                       rfl
                      refine pure_ (i := 22) (N := some 77) (v := ?_) (a' := ?_) #[true, true, true, true, true, true, true, true, true, true, true, true, true, true, true, true, true, true, true, true, true, true, true, false, false, false, false, false, false, false, false, false, false, false, false, false, false, false, false, false, false] rfl rfl (any_of HT_.out (by kernel_rfl)) (fun _ _ _ h => h) (Or.inl ⟨by rfl, ?_⟩) ?_ ?_
                      rotate_left
                      ·intro w'
                       go_simp
                       with_reducible rfl
                      rotate_left
                      ·simp only [Act.put, List.setIfInBounds_toArray, List.set_cons_zero, List.set_cons_succ, i64_w, i32_w]
                       rfl
                      refine pure_ (i := 23) (N := some 78) (v := ?_) (a' := ?_) #[true, true, true, true, true, true, true, true, true, true, true, true, true, true, true, true, true, true, true, true, true, true, true, true, false, false, false, false, false, false, false, false, false, false, false, false, false, false, false, false, false] rfl rfl (any_of HT_.out (by kernel_rfl)) (fun _ _ _ h => h) (Or.inl ⟨by rfl, ?_⟩) ?_ ?_
                      rotate_left
                      ·intro w'
                       go_simp
                       with_reducible rfl
                      rotate_left
                      ·simp only [Act.put, List.setIfInBounds_toArray, List.set_cons_zero, List.set_cons_succ, i64_w, i32_w]
                       rfl
                      refine pure_ (i := 24) (N := some 79) (v := ?_) (a' := ?_) #[true, true, true, true, true, true, true, true, true, true, true, true, true, true, true, true, true, true, true, true, true, true, true, true, true, false, false, false, false, false, false, false, false, false, false, false, false, false, false, false, false] rfl rfl (any_of HT_.out (by kernel_rfl)) (fun _ _ _ h => h) (Or.inl ⟨by rfl, ?_⟩) ?_ ?_
                      rotate_left
                      ·intro w'
                       go_simp
                       with_reducible rfl
                      rotate_left
                      ·simp only [Act.put, List.setIfInBounds_toArray, List.set_cons_zero, List.set_cons_succ, i64_w, i32_w]
                       rfl
                      refine pure_ (i := 25) (N := some 80) (v := ?_) (a' := ?_) #[true, true, true, true, true, true, true, true, true, true, true, true, true, true, true, true, true, true, true, true, true, true, true, true, true, true, false, false, false, false, false, false, false, false, false, false, false, false, false, false, false] rfl rfl (any_of HT_.out (by kernel_rfl)) (fun _ _ _ h => h) (Or.inl ⟨by rfl, ?_⟩) ?_ ?_
                      rotate_left
                      ·intro w'
                       go_simp
                       with_reducible rfl
                      rotate_left
                      ·simp only [Act.put, List.setIfInBounds_toArray, List.set_cons_zero, List.set_cons_succ, i64_w, i32_w]
                       rfl
                      refine pure_ (i := 26) (N := some 81) (v := ?_) (a' := ?_) #[true, true, true, true, true, true, true, true, true, true, true, true, true, true, true, true, true, true, true, true, true, true, true, true, true, true, true, false, false, false, false, false, false, false, false, false, false, false, false, false, false] rfl rfl (any_of HT_.out (by kernel_rfl)) (fun _ _ _ h => h) (Or.inl ⟨by rfl, ?_⟩) ?_ ?_
                      rotate_left
                      ·intro w'
                       go_simp
                       with_reducible rfl
                      rotate_left
                      ·simp only [Act.put, List.setIfInBounds_toArray, List.set_cons_zero, List.set_cons_succ, i64_w, i32_w]
                       rfl
                      refine pure_ (i := 27) (N := some 82) (v := ?_) (a' := ?_) #[true, true, true, true, true, true, true, true, true, true, true, true, true, true, true, true, true, true, true, true, true, true, true, true, true, true, true, true, false, false, false, false, false, false, false, false, false, false, false, false, false] rfl rfl (any_of HT_.out (by kernel_rfl)) (fun _ _ _ h => h) (Or.inl ⟨by rfl, ?_⟩) ?_ ?_
                      rotate_left
                      ·intro w'
                       go_simp
                       with_reducible rfl
                      rotate_left
                      ·simp only [Act.put, List.setIfInBounds_toArray, List.set_cons_zero, List.set_cons_succ, i64_w, i32_w]
                       rfl
                      refine pure_ (i := 29) (N := some 84) (v := ?_) (a' := ?_) #[true, true, true, true, true, true, true, true, true, true, true, true, true, true, true, true, true, true, true, true, true, true, true, true, true, true, true, true, false, true, false, false, false, false, false, false, false, false, false, false, false] rfl rfl (any_of HT_.out (by kernel_rfl)) (fun _ _ _ h => h) (Or.inl ⟨by rfl, ?_⟩) ?_ ?_
                      rotate_left
                      ·intro w'
                       go_simp
                       with_reducible rfl
                      rotate_left
                      ·simp only [Act.put, List.setIfInBounds_toArray, List.set_cons_zero, List.set_cons_succ, i64_w, i32_w]
                       rfl
                      refine pure_ (i := 30) (N := some 85) (v := ?_) (a' := ?_) #[true, true, true, true, true, true, true, true, true, true, true, true, true, true, true, true, true, true, true, true, true, true, true, true, true, true, true, true, false, true, true, false, false, false, false, false, false, false, false, false, false] rfl rfl (any_of HT_.out (by kernel_rfl)) (fun _ _ _ h => h) (Or.inl ⟨by rfl, ?_⟩) ?_ ?_
                      rotate_left
                      ·intro w'
                       go_simp
                       with_reducible rfl
                      rotate_left
                      ·simp only [Act.put, List.setIfInBounds_toArray, List.set_cons_zero, List.set_cons_succ, i64_w, i32_w]
                       rfl
                      refine pure_ (i := 31) (N := some 86) (v := ?_) (a' := ?_) #[true, true, true, true, true, true, true, true, true, true, true, true, true, true, true, true, true, true, true, true, true, true, true, true, true, true, true, true, false, true, true, true, false, false, false, false, false, false, false, false, false] rfl rfl (any_of HT_.out (by kernel_rfl)) (fun _ _ _ h => h) (Or.inl ⟨by rfl, ?_⟩) ?_ ?_
                      rotate_left
                      ·intro w'
                       go_simp
                       with_reducible rfl
                      rotate_left
                      ·simp only [Act.put, List.setIfInBounds_toArray, List.set_cons_zero, List.set_cons_succ, i64_w, i32_w]
                       rfl
                      refine pure_ (i := 33) (N := some 88) (v := ?_) (a' := ?_) #[true, true, true, true, true, true, true, true, true, true, true, true, true, true, true, true, true, true, true, true, true, true, true, true, true, true, true, true, false, true, true, true, false, true, false, false, false, false, false, false, false] rfl rfl (any_of HT_.out (by kernel_rfl)) (fun _ _ _ h => h) (Or.inl ⟨by rfl, ?_⟩) ?_ ?_
                      rotate_left
                      ·intro w'
                       go_simp
                       with_reducible rfl
                      rotate_left
                      ·simp only [Act.put, List.setIfInBounds_toArray, List.set_cons_zero, List.set_cons_succ, i64_w, i32_w]
                       rfl
                      refine pure_ (i := 35) (N := some 90) (v := ?_) (a' := ?_) #[true, true, true, true, true, true, true, true, true, true, true, true, true, true, true, true, true, true, true, true, true, true, true, true, true, true, true, true, false, true, true, true, false, true, false, true, false, false, false, false, false] rfl rfl (any_of HT_.out (by kernel_rfl)) (fun _ _ _ h => h) (Or.inl ⟨by rfl, ?_⟩) ?_ ?_
                      rotate_left
                      ·intro w'
                       go_simp
                       with_reducible rfl
                      rotate_left
                      ·simp only [Act.put, List.setIfInBounds_toArray, List.set_cons_zero, List.set_cons_succ, i64_w, i32_w]
                       rfl
                      refine take_ (i := 28) (N := some 83) (v := ?_) (a' := ?_) #[true, true, true, true, true, true, true, true, true, true, true, true, true, true, true, true, true, true, true, true, true, true, true, true, true, true, true, true, true, true, true, true, false, true, false, true, false, false, false, false, false] rfl rfl (take_ofW HT_.out HW_.out (by kernel_rfl)) (fun _ _ _ h => h) (Or.inl ⟨by rfl, ?_⟩) hHeld ?_ ?_
                      rotate_left
                      ·rintro w' ⟨s0, s1, s2, s3, s4, s5, s6, s7, s8, s9, s10, s11, s12, s13, s14, s15, s16, s17⟩
                       go_simp
                       with_reducible rfl
                      rotate_left
                      ·simp only [Act.put, List.setIfInBounds_toArray, List.set_cons_zero, List.set_cons_succ, i64_w, i32_w]
                       rfl
                      refine take_ (i := 32) (N := some 87) (v := ?_) (a' := ?_) #[true, true, true, true, true, true, true, true, true, true, true, true, true, true, true, true, true, true, true, true, true, true, true, true, true, true, true, true, true, true, true, true, true, true, false, true, false, false, false, false, false] rfl rfl (take_ofW HT_.out HW_.out (by kernel_rfl)) (fun _ _ _ h => h) (Or.inl ⟨by rfl, ?_⟩) hHeld ?_ ?_
                      rotate_left
                      ·rintro w' ⟨s0, s1, s2, s3, s4, s5, s6, s7, s8, s9, s10, s11, s12, s13, s14, s15, s16, s17⟩
                       go_simp
                       with_reducible rfl
                      rotate_left
                      ·simp only [Act.put, List.setIfInBounds_toArray, List.set_cons_zero, List.set_cons_succ, i64_w, i32_w]
                       rfl
                      refine take_ (i := 34) (N := some 89) (v := ?_) (a' := ?_) #[true, true, true, true, true, true, true, true, true, true, true, true, true, true, true, true, true, true, true, true, true, true, true, true, true, true, true, true, true, true, true, true, true, true, true, true, false, false, false, false, false] rfl rfl (take_ofW HT_.out HW_.out (by kernel_rfl)) (fun _ _ _ h => h) (Or.inl ⟨by rfl, ?_⟩) hHeld ?_ ?_
                      rotate_left
                      ·rintro w' ⟨s0, s1, s2, s3, s4, s5, s6, s7, s8, s9, s10, s11, s12, s13, s14, s15, s16, s17⟩
                       go_simp
                       with_reducible rfl
                      rotate_left
                      ·simp only [Act.put, List.setIfInBounds_toArray, List.set_cons_zero, List.set_cons_succ, i64_w, i32_w]
                       rfl
                      refine pure_ (i := 36) (N := some 91) (v := ?_) (a' := ?_) #[true, true, true, true, true, true, true, true, true, true, true, true, true, true, true, true, true, true, true, true, true, true, true, true, true, true, true, true, true, true, true, true, true, true, true, true, true, false, false, false, false] rfl rfl (any_of HT_.out (by kernel_rfl)) (fun _ _ _ h => h) (Or.inl ⟨by rfl, ?_⟩) ?_ ?_
                      rotate_left
                      ·intro w'
                       go_simp
                       with_reducible rfl
                      rotate_left
                      ·simp only [Act.put, List.setIfInBounds_toArray, List.set_cons_zero, List.set_cons_succ, i64_w, i32_w]
                       rfl
                      refine take_ (i := 37) (N := some 92) (v := ?_) (a' := ?_) #[true, true, true, true, true, true, true, true, true, true, true, true, true, true, true, true, true, true, true, true, true, true, true, true, true, true, true, true, true, true, true, true, true, true, true, true, true, true, false, false, false] rfl rfl (take_ofW HT_.out HW_.out (by kernel_rfl)) (fun _ _ _ h => h) (Or.inl ⟨by rfl, ?_⟩) hHeld ?_ ?_
                      rotate_left
                      ·rintro w' ⟨s0, s1, s2, s3, s4, s5, s6, s7, s8, s9, s10, s11, s12, s13, s14, s15, s16, s17⟩
                       go_simp
                       with_reducible rfl
                      rotate_left
                      ·simp only [Act.put, List.setIfInBounds_toArray, List.set_cons_zero, List.set_cons_succ, i64_w, i32_w]
                       rfl
                      refine one_ (i := 38) (N := some 93) #[true, true, true, true, true, true, true, true, true, true, true, true, true, true, true, true, true, true, true, true, true, true, true, true, true, true, true, true, true, true, true, true, true, true, true, true, true, true, true, false, false] rfl rfl (one_of HT_.out (by kernel_rfl)) (by decide) (fun K hK => ?_)
                      refine goes_ Try.func24 (by kernel_rfl) rfl #[.agg #[.int .i64 ((rd_T49 l1 t343).f0), .int .i64 ((rd_T49 l1 t343).f1), .int .i64 ((rd_T49 l1 t343).f2), .slice A350_3 ((rd_T49 l1 t343).f3).length c350_3], .agg #[.int .i64 ((rd_T49 l1 t344).f0), .int .i64 ((rd_T49 l1 t344).f1), .int .i64 ((rd_T49 l1 t344).f2), .slice A353_3 ((rd_T49 l1 t344).f3).length c353_3], .agg #[.slice A356_0 ((rd_T29 l0_5 t345).f0).length c356_0, .string ((rd_T29 l0_5 t345).f1), .slice A356_2 ((rd_T29 l0_5 t345).f2).length c356_2, .int .i64 ((rd_T29 l0_5 t345).f3)]] (by rfl) rfl rfl (by (try simp only [List.map_toArray, List.map_cons, List.map_nil]); first | done | rfl | (simp only [List.length_drop, List.length_take]; rfl)) ?_
                      with_reducible refine (testamurlaw13_breaks.calls ((rd_T49 l1 t343).f0) ((rd_T49 l1 t343).f1) ((rd_T49 l1 t343).f2) _ _ ((rd_T49 l1 t343).f3) ((rd_T49 l1 t344).f0) ((rd_T49 l1 t344).f1) ((rd_T49 l1 t344).f2) _ _ ((rd_T49 l1 t344).f3) _ _ ((rd_T29 l0_5 t345).f0) ((rd_T29 l0_5 t345).f1) _ _ ((rd_T29 l0_5 t345).f2) ((rd_T29 l0_5 t345).f3) t357 _ ?side1 ?side2 ?side3 ?side4 ?side5 ?side6 ?side7 ?side8 A39.out).mono ?_
                      (case side1 => repeat (first | exact (Kd.C_below HR350_3.out HB.out) | (with_reducible refine Kd.C_alloc ?_ _) | (with_reducible refine Kd.C_drewN ?_ _) | (with_reducible refine Kd.C_drew ?_)))
                      (case side2 => exact HC350_3.out)
                      (case side3 => repeat (first | exact (Kd.C_below HR353_3.out HB.out) | (with_reducible refine Kd.C_alloc ?_ _) | (with_reducible refine Kd.C_drewN ?_ _) | (with_reducible refine Kd.C_drew ?_)))
                      (case side4 => exact HC353_3.out)
                      (case side5 => repeat (first | exact (Kd.C_below HR356_0.out HB.out) | (with_reducible refine Kd.C_alloc ?_ _) | (with_reducible refine Kd.C_drewN ?_ _) | (with_reducible refine Kd.C_drew ?_)))
                      (case side6 => exact HC356_0.out)
                      (case side7 => repeat (first | exact (Kd.C_below HR356_2.out HB.out) | (with_reducible refine Kd.C_alloc ?_ _) | (with_reducible refine Kd.C_drewN ?_ _) | (with_reducible refine Kd.C_drew ?_)))
                      (case side8 => exact HC356_2.out)
                      rintro e w42 ⟨rfl, hb⟩
                      refine ⟨_, rfl, ?_⟩
                      have n0_ := Aside0.mk (blk_below (g := gb339) (o := .cells #[.string a0_0, .string a0_1, .int .i64 a0_2, .int .i64 a0_3, .slice A0_4 l0_4.length c0_4, .slice (some ad356) l0_5.length c0_5] 25 (0, 0)) (by (with_reducible repeat (first | refine blk_drewN ?_ _ | refine blk_drew ?_ | refine blk_alloc ?_ _)); exact BK339.out) hb)
                      have n1_ := Aside0.mk (below_step (by repeat (first | (with_reducible first | exact HB.out | apply below_alloc | apply pw_below_drewN | apply below_drew1 | refine below_set ?_ GE339.out) | exact HB.out)) hb)
                      clear BK339
                      clear HB
                      have BK339 := n0_
                      have HB := n1_
                      clear n0_ n1_
                      (try clear hb)
                      (try clear hb2)
                      (try clear hk)
                      (try clear hi)
                      refine hK.out _ _ ⟨(blk_cell BK339.out 0).trans rfl, (blk_cell BK339.out 1).trans rfl, (blk_cell BK339.out 2).trans rfl, (blk_cell BK339.out 3).trans rfl, (blk_cell BK339.out 4).trans rfl, (blk_cell BK339.out 5).trans rfl, ((HB.out.cell (World.block_lt_of_cell? w _ hw350_0)).trans hw350_0), ((HB.out.cell (World.block_lt_of_cell? w _ hw350_1)).trans hw350_1), ((HB.out.cell (World.block_lt_of_cell? w _ hw350_2)).trans hw350_2), ((HB.out.cell (World.block_lt_of_cell? w _ hw350_3)).trans hw350_3), ((HB.out.cell (World.block_lt_of_cell? w _ hw353_0)).trans hw353_0), ((HB.out.cell (World.block_lt_of_cell? w _ hw353_1)).trans hw353_1), ((HB.out.cell (World.block_lt_of_cell? w _ hw353_2)).trans hw353_2), ((HB.out.cell (World.block_lt_of_cell? w _ hw353_3)).trans hw353_3), ((HB.out.cell (World.block_lt_of_cell? w _ hw356_0)).trans hw356_0), ((HB.out.cell (World.block_lt_of_cell? w _ hw356_1)).trans hw356_1), ((HB.out.cell (World.block_lt_of_cell? w _ hw356_2)).trans hw356_2), ((HB.out.cell (World.block_lt_of_cell? w _ hw356_3)).trans hw356_3)⟩ (fun hHeld => ?_)
                      clear hK K
                      refine norm_ (a' := ?_) ?_ ?_
                      rotate_left
                      ·show Act.put _ (some 93) _ = _
                       simp only [Act.put, List.setIfInBounds_toArray, List.set_cons_zero, List.set_cons_succ, i64_w, i32_w]
                       rfl
                      refine pure_ (i := 39) (N := some 94) (v := ?_) (a' := ?_) #[true, true, true, true, true, true, true, true, true, true, true, true, true, true, true, true, true, true, true, true, true, true, true, true, true, true, true, true, true, true, true, true, true, true, true, true, true, true, true, true, false] rfl rfl (any_of HT_.out (by kernel_rfl)) (fun _ _ _ h => h) (Or.inl ⟨by rfl, ?_⟩) ?_ ?_
                      rotate_left
                      ·intro w'
                       go_simp
                       with_reducible rfl
                      rotate_left
                      ·simp only [Act.put, List.setIfInBounds_toArray, List.set_cons_zero, List.set_cons_succ, i64_w, i32_w]
                       rfl
                      refine pure_ (i := 40) (N := some 95) (v := ?_) (a' := ?_) #[true, true, true, true, true, true, true, true, true, true, true, true, true, true, true, true, true, true, true, true, true, true, true, true, true, true, true, true, true, true, true, true, true, true, true, true, true, true, true, true, true] rfl rfl (any_of HT_.out (by kernel_rfl)) (fun _ _ _ h => h) (Or.inl ⟨by rfl, ?_⟩) ?_ ?_
                      rotate_left
                      ·intro w'
                       go_simp
                       with_reducible rfl
                      rotate_left
                      ·simp only [Act.put, List.setIfInBounds_toArray, List.set_cons_zero, List.set_cons_succ, i64_w, i32_w]
                       rfl
                      refine done_ (done_of HT_.out (by kernel_rfl)) ?_
                      go_upto_if 95 with (fail)
                      go_cut [] (fun wc => ∃ (kq : Nat), Aside0 (testamurlaw13_DependsFirst.j5 kq l1 t343 t344 t345 a0_0 a0_1 a0_2 a0_3 l0_4 l0_5 = some r) ∧ Aside0 (kq ≤ kj22) ∧ Aside0 (wc.heap[gb339]? = some (.cells #[.string a0_0, .string a0_1, .int .i64 a0_2, .int .i64 a0_3, (.slice A0_4 l0_4.length c0_4), (.slice (some ad356) l0_5.length c0_5)] 25 (0, 0))) ∧ Aside0 (Below w.heap.size w wc))
                      case first =>
                       have H := HC40.out
                       clear HC40
                       by_cases c43 : t357 = true
                       ·subst c43
                        have H1 : (testamurlaw13_DependsFirst.j5 kj22 l1 t343 t344 t345 a0_0 a0_1 a0_2 a0_3 l0_4 l0_5) = some r := by rw [if_pos rfl] at H; exact H
                        clear H
                        have H := H1
                        clear H1
                        have H' := Aside0.mk H
                        clear H
                        go_wp2
                        go_meet
                        case rel => exact ⟨_, H', ⟨by have := HJ3.out; have := HJ7.out; have := HJ15.out; have := HJ18.out; have := HJ22.out; first | omega | exact Nat.le_refl _⟩, ⟨by (with_reducible repeat (first | refine blk_drewN ?_ _ | refine blk_drew ?_ | refine blk_alloc ?_ _)); exact BK339.out⟩, ⟨by repeat (first | (with_reducible first | exact HB.out | apply below_alloc | apply pw_below_drewN | apply below_drew1 | refine below_set ?_ GE339.out) | exact HB.out)⟩⟩
                       ·replace c43 := Bool.eq_false_iff.mpr c43
                        subst c43
                        have H1 : (none) = some r := by rw [if_neg (show ¬ (false = true) by decide)] at H; exact H
                        clear H
                        have H := H1
                        clear H1
                        exact absurd H (by simp)
                      case rest =>
                       clear HC40
                       try clear c1
                       try clear c2
                       try clear p2
                       try clear c3
                       try clear p3
                       try clear q3
                       try clear hx3
                       try clear c4
                       try clear c7
                       try clear c8
                       try clear c10
                       try clear c11
                       try clear c17
                       try clear c20
                       try clear c22
                       try clear c22b0
                       try clear c22b1
                       try clear c24
                       try clear c25
                       try clear c25b0
                       try clear c25b1
                       try clear c26
                       try clear c26b0
                       try clear c26b1
                       try clear c27
                       try clear c27b0
                       try clear c27b1
                       try clear c28
                       try clear c28b0
                       try clear c29
                       try clear c29b0
                       try clear c30
                       try clear c30b0
                       try clear c31
                       try clear c31b0
                       try clear c32
                       try clear c32b0
                       try clear c33
                       try clear c33b0
                       try clear c34
                       try clear c34b0
                       try clear c35
                       try clear c35b0
                       try clear p35
                       try clear q35
                       try clear hx35
                       try clear c36
                       try clear c36b0
                       try clear c37
                       try clear c37b0
                       try clear c38
                       try clear c38b0
                       try clear c43
                       try clear hcz12_0
                       try clear hcz12_1
                       try clear hcz12_2
                       try clear hcz12_3
                       try clear hcz12_4
                       try clear hcz12_5
                       try clear hcz14_0
                       try clear hcz14_1
                       try clear hcz14_2
                       try clear hcz14_3
                       try clear hcz14_4
                       try clear hcz14_5
                       try clear hcz20_0
                       try clear hcz20_1
                       try clear hcz20_2
                       try clear hcz20_3
                       try clear hcz20_4
                       try clear hcz20_5
                       try clear hfz12_0
                       try clear hfz12_1
                       try clear hfz12_2
                       try clear hfz12_3
                       try clear hfz12_4
                       try clear hfz12_5
                       try clear hfz14_0
                       try clear hfz14_1
                       try clear hfz14_2
                       try clear hfz14_3
                       try clear hfz14_4
                       try clear hfz14_5
                       try clear hfz20_0
                       try clear hfz20_1
                       try clear hfz20_2
                       try clear hfz20_3
                       try clear hfz20_4
                       try clear hfz20_5
                       try clear hx350_0
                       try clear hx350_1
                       try clear hx350_2
                       try clear hx350_3
                       try clear hx353_0
                       try clear hx353_1
                       try clear hx353_2
                       try clear hx353_3
                       try clear hx356_0
                       try clear hx356_1
                       try clear hx356_2
                       try clear hx356_3
                       try clear p2
                       try clear p350
                       try clear p353
                       try clear p356
                       try clear q350
                       try clear q353
                       try clear q356
                       obtain ⟨kq, HA, HJ39, BK339, HB⟩ := hcut
                       cases kq with
                       | zero => exact absurd HA.out (by simp [testamurlaw13_DependsFirst.j5])
                       | succ kj39 =>
                        have H := HA.out
                        clear HA
                        simp only [testamurlaw13_DependsFirst.j5] at H
                        have HC44 := Aside0.mk H
                        clear H
                        go_upto_block 0 with (fail)
                        go_cut [] (fun wc => ∃ (kq : Nat), Aside0 (testamurlaw13_DependsFirst.j13 kq l1 t343 t344 t345 a0_0 a0_1 a0_2 a0_3 l0_4 l0_5 = some r) ∧ Aside0 (kq ≤ kj39) ∧ Aside0 (wc.heap[gb339]? = some (.cells #[.string a0_0, .string a0_1, .int .i64 a0_2, .int .i64 a0_3, (.slice A0_4 l0_4.length c0_4), (.slice (some ad356) l0_5.length c0_5)] 25 (0, 0))) ∧ Aside0 (Below w.heap.size w wc))
                        case first =>
                         have H := HC44.out
                         clear HC44
                         have H' := Aside0.mk H
                         clear H
                         go_wp2
                         go_loopg [10] kj39 (fun kq v10 w' => ∃ (x10_7 : Int), v10 = .int .i64 x10_7 ∧ Aside0 (testamurlaw13_DependsFirst.l0 kq l1 t343 t344 t345 x10_7 a0_0 a0_1 a0_2 a0_3 l0_4 l0_5 = some r) ∧ Aside0 (kq ≤ kj39) ∧ Aside0 (w'.heap[gb339]? = some (.cells #[.string a0_0, .string a0_1, .int .i64 a0_2, .int .i64 a0_3, (.slice A0_4 l0_4.length c0_4), (.slice (some ad356) l0_5.length c0_5)] 25 (0, 0))) ∧ Aside0 (Below w.heap.size w w'))
                         case atStart => exact ⟨(0), (by first | rfl | (simp; done) | (simp [*]; done)), H', ⟨Nat.le_refl _⟩, ⟨by (with_reducible repeat (first | refine blk_drewN ?_ _ | refine blk_drew ?_ | refine blk_alloc ?_ _)); exact BK339.out⟩, ⟨by repeat (first | (with_reducible first | exact HB.out | apply below_alloc | apply pw_below_drewN | apply below_drew1 | refine below_set ?_ GE339.out) | exact HB.out)⟩⟩
                         case round =>
                          clear H'
                          try clear c1
                          try clear c2
                          try clear p2
                          try clear c3
                          try clear p3
                          try clear q3
                          try clear hx3
                          try clear c4
                          try clear c7
                          try clear c8
                          try clear c10
                          try clear c11
                          try clear c17
                          try clear c20
                          try clear c22
                          try clear c22b0
                          try clear c22b1
                          try clear c24
                          try clear c25
                          try clear c25b0
                          try clear c25b1
                          try clear c26
                          try clear c26b0
                          try clear c26b1
                          try clear c27
                          try clear c27b0
                          try clear c27b1
                          try clear c28
                          try clear c28b0
                          try clear c29
                          try clear c29b0
                          try clear c30
                          try clear c30b0
                          try clear c31
                          try clear c31b0
                          try clear c32
                          try clear c32b0
                          try clear c33
                          try clear c33b0
                          try clear c34
                          try clear c34b0
                          try clear c35
                          try clear c35b0
                          try clear p35
                          try clear q35
                          try clear hx35
                          try clear c36
                          try clear c36b0
                          try clear c37
                          try clear c37b0
                          try clear c38
                          try clear c38b0
                          try clear c43
                          try clear hcz12_0
                          try clear hcz12_1
                          try clear hcz12_2
                          try clear hcz12_3
                          try clear hcz12_4
                          try clear hcz12_5
                          try clear hcz14_0
                          try clear hcz14_1
                          try clear hcz14_2
                          try clear hcz14_3
                          try clear hcz14_4
                          try clear hcz14_5
                          try clear hcz20_0
                          try clear hcz20_1
                          try clear hcz20_2
                          try clear hcz20_3
                          try clear hcz20_4
                          try clear hcz20_5
                          try clear hfz12_0
                          try clear hfz12_1
                          try clear hfz12_2
                          try clear hfz12_3
                          try clear hfz12_4
                          try clear hfz12_5
                          try clear hfz14_0
                          try clear hfz14_1
                          try clear hfz14_2
                          try clear hfz14_3
                          try clear hfz14_4
                          try clear hfz14_5
                          try clear hfz20_0
                          try clear hfz20_1
                          try clear hfz20_2
                          try clear hfz20_3
                          try clear hfz20_4
                          try clear hfz20_5
                          try clear hx350_0
                          try clear hx350_1
                          try clear hx350_2
                          try clear hx350_3
                          try clear hx353_0
                          try clear hx353_1
                          try clear hx353_2
                          try clear hx353_3
                          try clear hx356_0
                          try clear hx356_1
                          try clear hx356_2
                          try clear hx356_3
                          try clear p2
                          try clear p3
                          try clear p35
                          try clear p350
                          try clear p353
                          try clear p356
                          try clear q3
                          try clear q35
                          try clear q350
                          try clear q353
                          try clear q356
                          obtain ⟨x10_7, rfl, HA, HK7, BK339, HB⟩ := hrel
                          cases gk with
                          | zero => exact absurd HA.out (by simp [testamurlaw13_DependsFirst.l0])
                          | succ k7 =>
                           have H := HA.out
                           clear HA
                           simp only [testamurlaw13_DependsFirst.l0] at H
                           have HC45 := Aside0.mk H
                           clear H
                           go_upto_if 98 with (fail)
                           go_cut [] (fun wc => ∃ (kq : Nat), Aside0 (testamurlaw13_DependsFirst.j7 kq l1 t343 t344 t345 x10_7 a0_0 a0_1 a0_2 a0_3 l0_4 l0_5 = some r) ∧ Aside0 (kq ≤ k7) ∧ Aside0 (wc.heap[gb339]? = some (.cells #[.string a0_0, .string a0_1, .int .i64 a0_2, .int .i64 a0_3, (.slice A0_4 l0_4.length c0_4), (.slice (some ad356) l0_5.length c0_5)] 25 (0, 0))) ∧ Aside0 (Below w.heap.size w wc))
                           case first =>
                            have H := HC45.out
                            clear HC45
                            by_cases c46 : x10_7 ≤ t343
                            ·rw [if_pos c46] at H
                             have c46b0 : decide (x10_7 ≤ t343) = true := decide_eq_true c46
                             clear c46
                             (first | rw [c46b0] | (simp only [i64_w, i32_w]; rw [c46b0]) | skip)
                             have H' := Aside0.mk H
                             clear H
                             go_wp2
                             go_meet
                             case rel => exact ⟨_, H', ⟨by have := HJ3.out; have := HJ7.out; have := HJ15.out; have := HJ18.out; have := HJ22.out; have := HJ39.out; have := HK7.out; first | omega | exact Nat.le_refl _⟩, ⟨by (with_reducible repeat (first | refine blk_drewN ?_ _ | refine blk_drew ?_ | refine blk_alloc ?_ _)); exact BK339.out⟩, ⟨by repeat (first | (with_reducible first | exact HB.out | apply below_alloc | apply pw_below_drewN | apply below_drew1 | refine below_set ?_ GE339.out) | exact HB.out)⟩⟩
                            ·rw [if_neg c46] at H
                             have c46b0 : decide (x10_7 ≤ t343) = false := decide_eq_false c46
                             clear c46
                             (first | rw [c46b0] | (simp only [i64_w, i32_w]; rw [c46b0]) | skip)
                             have H' := Aside0.mk H
                             clear H
                             go_wp2
                             go_meet
                             case rel => exact ⟨_, H', ⟨by have := HJ3.out; have := HJ7.out; have := HJ15.out; have := HJ18.out; have := HJ22.out; have := HJ39.out; have := HK7.out; first | omega | exact Nat.le_refl _⟩, ⟨by (with_reducible repeat (first | refine blk_drewN ?_ _ | refine blk_drew ?_ | refine blk_alloc ?_ _)); exact BK339.out⟩, ⟨by repeat (first | (with_reducible first | exact HB.out | apply below_alloc | apply pw_below_drewN | apply below_drew1 | refine below_set ?_ GE339.out) | exact HB.out)⟩⟩
                           case rest =>
                            clear HC45
                            try clear c1
                            try clear c2
                            try clear p2
                            try clear c3
                            try clear p3
                            try clear q3
                            try clear hx3
                            try clear c4
                            try clear c7
                            try clear c8
                            try clear c10
                            try clear c11
                            try clear c17
                            try clear c20
                            try clear c22
                            try clear c22b0
                            try clear c22b1
                            try clear c24
                            try clear c25
                            try clear c25b0
                            try clear c25b1
                            try clear c26
                            try clear c26b0
                            try clear c26b1
                            try clear c27
                            try clear c27b0
                            try clear c27b1
                            try clear c28
                            try clear c28b0
                            try clear c29
                            try clear c29b0
                            try clear c30
                            try clear c30b0
                            try clear c31
                            try clear c31b0
                            try clear c32
                            try clear c32b0
                            try clear c33
                            try clear c33b0
                            try clear c34
                            try clear c34b0
                            try clear c35
                            try clear c35b0
                            try clear p35
                            try clear q35
                            try clear hx35
                            try clear c36
                            try clear c36b0
                            try clear c37
                            try clear c37b0
                            try clear c38
                            try clear c38b0
                            try clear c43
                            try clear c46
                            try clear c46b0
                            try clear hcz12_0
                            try clear hcz12_1
                            try clear hcz12_2
                            try clear hcz12_3
                            try clear hcz12_4
                            try clear hcz12_5
                            try clear hcz14_0
                            try clear hcz14_1
                            try clear hcz14_2
                            try clear hcz14_3
                            try clear hcz14_4
                            try clear hcz14_5
                            try clear hcz20_0
                            try clear hcz20_1
                            try clear hcz20_2
                            try clear hcz20_3
                            try clear hcz20_4
                            try clear hcz20_5
                            try clear hfz12_0
                            try clear hfz12_1
                            try clear hfz12_2
                            try clear hfz12_3
                            try clear hfz12_4
                            try clear hfz12_5
                            try clear hfz14_0
                            try clear hfz14_1
                            try clear hfz14_2
                            try clear hfz14_3
                            try clear hfz14_4
                            try clear hfz14_5
                            try clear hfz20_0
                            try clear hfz20_1
                            try clear hfz20_2
                            try clear hfz20_3
                            try clear hfz20_4
                            try clear hfz20_5
                            try clear hx350_0
                            try clear hx350_1
                            try clear hx350_2
                            try clear hx350_3
                            try clear hx353_0
                            try clear hx353_1
                            try clear hx353_2
                            try clear hx353_3
                            try clear hx356_0
                            try clear hx356_1
                            try clear hx356_2
                            try clear hx356_3
                            try clear p2
                            try clear p3
                            try clear p35
                            try clear p350
                            try clear p353
                            try clear p356
                            try clear q3
                            try clear q35
                            try clear q350
                            try clear q353
                            try clear q356
                            obtain ⟨kq, HA, HJ44, BK339, HB⟩ := hcut
                            cases kq with
                            | zero => exact absurd HA.out (by simp [testamurlaw13_DependsFirst.j7])
                            | succ kj44 =>
                             have H := HA.out
                             clear HA
                             simp only [testamurlaw13_DependsFirst.j7] at H
                             have H' := Aside0.mk H
                             clear H
                             go_wp2
                             go_loopg [11] kj44 (fun kq v11 w' => ∃ (x11_9 : Int), v11 = .int .i64 x11_9 ∧ Aside0 (testamurlaw13_DependsFirst.l1 kq l1 t343 t344 t345 x10_7 x11_9 a0_0 a0_1 a0_2 a0_3 l0_4 l0_5 = some r) ∧ Aside0 (kq ≤ kj44) ∧ Aside0 (w'.heap[gb339]? = some (.cells #[.string a0_0, .string a0_1, .int .i64 a0_2, .int .i64 a0_3, (.slice A0_4 l0_4.length c0_4), (.slice (some ad356) l0_5.length c0_5)] 25 (0, 0))) ∧ Aside0 (Below w.heap.size w w'))
                             case atStart => exact ⟨(wrap64 (x10_7 + 1)), (by first | rfl | (simp; done) | (simp [*]; done)), H', ⟨Nat.le_refl _⟩, ⟨by (with_reducible repeat (first | refine blk_drewN ?_ _ | refine blk_drew ?_ | refine blk_alloc ?_ _)); exact BK339.out⟩, ⟨by repeat (first | (with_reducible first | exact HB.out | apply below_alloc | apply pw_below_drewN | apply below_drew1 | refine below_set ?_ GE339.out) | exact HB.out)⟩⟩
                             case round =>
                              clear H'
                              try clear c1
                              try clear c2
                              try clear p2
                              try clear c3
                              try clear p3
                              try clear q3
                              try clear hx3
                              try clear c4
                              try clear p6
                              try clear c7
                              try clear c8
                              try clear c10
                              try clear c11
                              try clear c17
                              try clear c20
                              try clear c22
                              try clear c22b0
                              try clear c22b1
                              try clear c24
                              try clear c25
                              try clear c25b0
                              try clear c25b1
                              try clear c26
                              try clear c26b0
                              try clear c26b1
                              try clear c27
                              try clear c27b0
                              try clear c27b1
                              try clear c28
                              try clear c28b0
                              try clear c29
                              try clear c29b0
                              try clear c30
                              try clear c30b0
                              try clear c31
                              try clear c31b0
                              try clear c32
                              try clear c32b0
                              try clear c33
                              try clear c33b0
                              try clear c34
                              try clear c34b0
                              try clear c35
                              try clear c35b0
                              try clear p35
                              try clear q35
                              try clear hx35
                              try clear c36
                              try clear c36b0
                              try clear c37
                              try clear c37b0
                              try clear c38
                              try clear c38b0
                              try clear c43
                              try clear c46
                              try clear c46b0
                              try clear hcz12_0
                              try clear hcz12_1
                              try clear hcz12_2
                              try clear hcz12_3
                              try clear hcz12_4
                              try clear hcz12_5
                              try clear hcz14_0
                              try clear hcz14_1
                              try clear hcz14_2
                              try clear hcz14_3
                              try clear hcz14_4
                              try clear hcz14_5
                              try clear hcz20_0
                              try clear hcz20_1
                              try clear hcz20_2
                              try clear hcz20_3
                              try clear hcz20_4
                              try clear hcz20_5
                              try clear hfz12_0
                              try clear hfz12_1
                              try clear hfz12_2
                              try clear hfz12_3
                              try clear hfz12_4
                              try clear hfz12_5
                              try clear hfz14_0
                              try clear hfz14_1
                              try clear hfz14_2
                              try clear hfz14_3
                              try clear hfz14_4
                              try clear hfz14_5
                              try clear hfz20_0
                              try clear hfz20_1
                              try clear hfz20_2
                              try clear hfz20_3
                              try clear hfz20_4
                              try clear hfz20_5
                              try clear hx350_0
                              try clear hx350_1
                              try clear hx350_2
                              try clear hx350_3
                              try clear hx353_0
                              try clear hx353_1
                              try clear hx353_2
                              try clear hx353_3
                              try clear hx356_0
                              try clear hx356_1
                              try clear hx356_2
                              try clear hx356_3
                              try clear p2
                              try clear p3
                              try clear p35
                              try clear p350
                              try clear p353
                              try clear p356
                              try clear q3
                              try clear q35
                              try clear q350
                              try clear q353
                              try clear q356
                              obtain ⟨x11_9, rfl, HA, HK9, BK339, HB⟩ := hrel
                              cases gk with
                              | zero => exact absurd HA.out (by simp [testamurlaw13_DependsFirst.l1])
                              | succ k9 =>
                               have H := HA.out
                               clear HA
                               simp only [testamurlaw13_DependsFirst.l1] at H
                               have HC47 := Aside0.mk H
                               clear H
                               go_upto_if 106 with (fail)
                               go_cut [] (fun wc => ∃ (kq : Nat), Aside0 (testamurlaw13_DependsFirst.j9 kq l1 t343 t344 t345 x10_7 x11_9 a0_0 a0_1 a0_2 a0_3 l0_4 l0_5 = some r) ∧ Aside0 (kq ≤ k9) ∧ Aside0 (wc.heap[gb339]? = some (.cells #[.string a0_0, .string a0_1, .int .i64 a0_2, .int .i64 a0_3, (.slice A0_4 l0_4.length c0_4), (.slice (some ad356) l0_5.length c0_5)] 25 (0, 0))) ∧ Aside0 (Below w.heap.size w wc))
                               case first =>
                                have H := HC47.out
                                clear HC47
                                by_cases c48 : x11_9 < (l1.length : Int)
                                ·rw [if_pos c48] at H
                                 have c48b0 : decide (x11_9 < (l1.length : Int)) = true := decide_eq_true c48
                                 clear c48
                                 (first | rw [c48b0] | (simp only [i64_w, i32_w]; rw [c48b0]) | skip)
                                 have H' := Aside0.mk H
                                 clear H
                                 go_wp2
                                 go_meet
                                 case rel => exact ⟨_, H', ⟨by have := HJ3.out; have := HJ7.out; have := HJ15.out; have := HJ18.out; have := HJ22.out; have := HJ39.out; have := HK7.out; have := HJ44.out; have := HK9.out; first | omega | exact Nat.le_refl _⟩, ⟨by (with_reducible repeat (first | refine blk_drewN ?_ _ | refine blk_drew ?_ | refine blk_alloc ?_ _)); exact BK339.out⟩, ⟨by repeat (first | (with_reducible first | exact HB.out | apply below_alloc | apply pw_below_drewN | apply below_drew1 | refine below_set ?_ GE339.out) | exact HB.out)⟩⟩
                                ·rw [if_neg c48] at H
                                 have c48b0 : decide (x11_9 < (l1.length : Int)) = false := decide_eq_false c48
                                 clear c48
                                 (first | rw [c48b0] | (simp only [i64_w, i32_w]; rw [c48b0]) | skip)
                                 have H' := Aside0.mk H
                                 clear H
                                 go_wp2
                                 go_roundg k9
                                 case measure => have := HJ3.out; have := HJ7.out; have := HJ15.out; have := HJ18.out; have := HJ22.out; have := HJ39.out; have := HK7.out; have := HJ44.out; have := HK9.out; omega
                                 case rel => exact ⟨(wrap64 (x10_7 + 1)), (by first | rfl | (simp; done) | (simp [*]; done)), H', ⟨by have := HJ3.out; have := HJ7.out; have := HJ15.out; have := HJ18.out; have := HJ22.out; have := HJ39.out; have := HK7.out; have := HJ44.out; have := HK9.out; omega⟩, ⟨by (with_reducible repeat (first | refine blk_drewN ?_ _ | refine blk_drew ?_ | refine blk_alloc ?_ _)); exact BK339.out⟩, ⟨by repeat (first | (with_reducible first | exact HB.out | apply below_alloc | apply pw_below_drewN | apply below_drew1 | refine below_set ?_ GE339.out) | exact HB.out)⟩⟩
                               case rest =>
                                clear HC47
                                try clear c1
                                try clear c2
                                try clear p2
                                try clear c3
                                try clear p3
                                try clear q3
                                try clear hx3
                                try clear c4
                                try clear p6
                                try clear c7
                                try clear c8
                                try clear c10
                                try clear c11
                                try clear c17
                                try clear c20
                                try clear c22
                                try clear c22b0
                                try clear c22b1
                                try clear c24
                                try clear c25
                                try clear c25b0
                                try clear c25b1
                                try clear c26
                                try clear c26b0
                                try clear c26b1
                                try clear c27
                                try clear c27b0
                                try clear c27b1
                                try clear c28
                                try clear c28b0
                                try clear c29
                                try clear c29b0
                                try clear c30
                                try clear c30b0
                                try clear c31
                                try clear c31b0
                                try clear c32
                                try clear c32b0
                                try clear c33
                                try clear c33b0
                                try clear c34
                                try clear c34b0
                                try clear c35
                                try clear c35b0
                                try clear p35
                                try clear q35
                                try clear hx35
                                try clear c36
                                try clear c36b0
                                try clear c37
                                try clear c37b0
                                try clear c38
                                try clear c38b0
                                try clear c43
                                try clear c46
                                try clear c46b0
                                try clear c48
                                try clear c48b0
                                try clear hcz12_0
                                try clear hcz12_1
                                try clear hcz12_2
                                try clear hcz12_3
                                try clear hcz12_4
                                try clear hcz12_5
                                try clear hcz14_0
                                try clear hcz14_1
                                try clear hcz14_2
                                try clear hcz14_3
                                try clear hcz14_4
                                try clear hcz14_5
                                try clear hcz20_0
                                try clear hcz20_1
                                try clear hcz20_2
                                try clear hcz20_3
                                try clear hcz20_4
                                try clear hcz20_5
                                try clear hfz12_0
                                try clear hfz12_1
                                try clear hfz12_2
                                try clear hfz12_3
                                try clear hfz12_4
                                try clear hfz12_5
                                try clear hfz14_0
                                try clear hfz14_1
                                try clear hfz14_2
                                try clear hfz14_3
                                try clear hfz14_4
                                try clear hfz14_5
                                try clear hfz20_0
                                try clear hfz20_1
                                try clear hfz20_2
                                try clear hfz20_3
                                try clear hfz20_4
                                try clear hfz20_5
                                try clear hx350_0
                                try clear hx350_1
                                try clear hx350_2
                                try clear hx350_3
                                try clear hx353_0
                                try clear hx353_1
                                try clear hx353_2
                                try clear hx353_3
                                try clear hx356_0
                                try clear hx356_1
                                try clear hx356_2
                                try clear hx356_3
                                try clear p2
                                try clear p3
                                try clear p35
                                try clear p350
                                try clear p353
                                try clear p356
                                try clear p6
                                try clear q3
                                try clear q35
                                try clear q350
                                try clear q353
                                try clear q356
                                obtain ⟨kq, HA, HJ46, BK339, HB⟩ := hcut
                                cases kq with
                                | zero => exact absurd HA.out (by simp [testamurlaw13_DependsFirst.j9])
                                | succ kj46 =>
                                 have H := HA.out
                                 clear HA
                                 simp only [testamurlaw13_DependsFirst.j9] at H
                                 have HC49 := Aside0.mk H
                                 clear H
                                 go_upto_region 16 with (fail)
                                 go_cut [116] (fun v116 wc => ∃ (kq : Nat) (x116_48 : Bool), v116 = .bool x116_48 ∧ Aside0 (testamurlaw13_DependsFirst.j10 kq l1 t343 t344 t345 x10_7 x11_9 x116_48 a0_0 a0_1 a0_2 a0_3 l0_4 l0_5 = some r) ∧ Aside0 (kq ≤ kj46) ∧ Aside0 (wc.heap[gb339]? = some (.cells #[.string a0_0, .string a0_1, .int .i64 a0_2, .int .i64 a0_3, (.slice A0_4 l0_4.length c0_4), (.slice (some ad356) l0_5.length c0_5)] 25 (0, 0))) ∧ Aside0 (Below w.heap.size w wc))
                                 case first =>
                                  have H := HC49.out
                                  clear HC49
                                  by_cases c50 : x10_7 = t343
                                  ·rw [if_pos c50] at H
                                   have c50b0 : (x10_7 == t343) = true := beq_iff_eq.mpr c50
                                   have c50b1 : (x10_7 != t343) = false := bne_eq_false_iff_eq.mpr c50
                                   clear c50
                                   (first | rw [c50b0] | (simp only [i64_w, i32_w]; rw [c50b0]) | skip)
                                   have H' := Aside0.mk H
                                   clear H
                                   go_wp2
                                   go_meet
                                   case rel => exact ⟨_, (decide (x11_9 ≥ t344)), (by first | rfl | (simp; done) | (simp [*]; done)), H', ⟨by have := HJ3.out; have := HJ7.out; have := HJ15.out; have := HJ18.out; have := HJ22.out; have := HJ39.out; have := HK7.out; have := HJ44.out; have := HK9.out; have := HJ46.out; first | omega | exact Nat.le_refl _⟩, ⟨by (with_reducible repeat (first | refine blk_drewN ?_ _ | refine blk_drew ?_ | refine blk_alloc ?_ _)); exact BK339.out⟩, ⟨by repeat (first | (with_reducible first | exact HB.out | apply below_alloc | apply pw_below_drewN | apply below_drew1 | refine below_set ?_ GE339.out) | exact HB.out)⟩⟩
                                  ·rw [if_neg c50] at H
                                   have c50b0 : (x10_7 == t343) = false := beq_eq_false_iff_ne.mpr c50
                                   have c50b1 : (x10_7 != t343) = true := bne_iff_ne.mpr c50
                                   (first | rw [c50b0] | (simp only [i64_w, i32_w]; rw [c50b0]) | skip)
                                   have H' := Aside0.mk H
                                   clear H
                                   go_wp2
                                   go_meet
                                   case rel => exact ⟨_, (false), (by first | rfl | (simp; done) | (simp [*]; done)), H', ⟨by have := HJ3.out; have := HJ7.out; have := HJ15.out; have := HJ18.out; have := HJ22.out; have := HJ39.out; have := HK7.out; have := HJ44.out; have := HK9.out; have := HJ46.out; first | omega | exact Nat.le_refl _⟩, ⟨by (with_reducible repeat (first | refine blk_drewN ?_ _ | refine blk_drew ?_ | refine blk_alloc ?_ _)); exact BK339.out⟩, ⟨by repeat (first | (with_reducible first | exact HB.out | apply below_alloc | apply pw_below_drewN | apply below_drew1 | refine below_set ?_ GE339.out) | exact HB.out)⟩⟩
                                 case rest =>
                                  clear HC49
                                  try clear c1
                                  try clear c2
                                  try clear p2
                                  try clear c3
                                  try clear p3
                                  try clear q3
                                  try clear hx3
                                  try clear c4
                                  try clear c5
                                  try clear p6
                                  try clear c7
                                  try clear c8
                                  try clear c10
                                  try clear c11
                                  try clear c17
                                  try clear c20
                                  try clear c22
                                  try clear c22b0
                                  try clear c22b1
                                  try clear c24
                                  try clear c25
                                  try clear c25b0
                                  try clear c25b1
                                  try clear c26
                                  try clear c26b0
                                  try clear c26b1
                                  try clear c27
                                  try clear c27b0
                                  try clear c27b1
                                  try clear c28
                                  try clear c28b0
                                  try clear c29
                                  try clear c29b0
                                  try clear c30
                                  try clear c30b0
                                  try clear c31
                                  try clear c31b0
                                  try clear c32
                                  try clear c32b0
                                  try clear c33
                                  try clear c33b0
                                  try clear c34
                                  try clear c34b0
                                  try clear c35
                                  try clear c35b0
                                  try clear p35
                                  try clear q35
                                  try clear hx35
                                  try clear c36
                                  try clear c36b0
                                  try clear c37
                                  try clear c37b0
                                  try clear c38
                                  try clear c38b0
                                  try clear c43
                                  try clear c46
                                  try clear c46b0
                                  try clear c48
                                  try clear c48b0
                                  try clear c50
                                  try clear c50b0
                                  try clear c50b1
                                  try clear hcz12_0
                                  try clear hcz12_1
                                  try clear hcz12_2
                                  try clear hcz12_3
                                  try clear hcz12_4
                                  try clear hcz12_5
                                  try clear hcz14_0
                                  try clear hcz14_1
                                  try clear hcz14_2
                                  try clear hcz14_3
                                  try clear hcz14_4
                                  try clear hcz14_5
                                  try clear hcz20_0
                                  try clear hcz20_1
                                  try clear hcz20_2
                                  try clear hcz20_3
                                  try clear hcz20_4
                                  try clear hcz20_5
                                  try clear hfz12_0
                                  try clear hfz12_1
                                  try clear hfz12_2
                                  try clear hfz12_3
                                  try clear hfz12_4
                                  try clear hfz12_5
                                  try clear hfz14_0
                                  try clear hfz14_1
                                  try clear hfz14_2
                                  try clear hfz14_3
                                  try clear hfz14_4
                                  try clear hfz14_5
                                  try clear hfz20_0
                                  try clear hfz20_1
                                  try clear hfz20_2
                                  try clear hfz20_3
                                  try clear hfz20_4
                                  try clear hfz20_5
                                  try clear hx350_0
                                  try clear hx350_1
                                  try clear hx350_2
                                  try clear hx350_3
                                  try clear hx353_0
                                  try clear hx353_1
                                  try clear hx353_2
                                  try clear hx353_3
                                  try clear hx356_0
                                  try clear hx356_1
                                  try clear hx356_2
                                  try clear hx356_3
                                  try clear p2
                                  try clear p3
                                  try clear p35
                                  try clear p350
                                  try clear p353
                                  try clear p356
                                  try clear p6
                                  try clear q3
                                  try clear q35
                                  try clear q350
                                  try clear q353
                                  try clear q356
                                  obtain ⟨kq, x116_48, rfl, HA, HJ48, BK339, HB⟩ := hcut
                                  cases kq with
                                  | zero => exact absurd HA.out (by simp [testamurlaw13_DependsFirst.j10])
                                  | succ kj48 =>
                                   have H := HA.out
                                   clear HA
                                   simp only [testamurlaw13_DependsFirst.j10] at H
                                   have HC51 := Aside0.mk H
                                   clear H
                                   go_upto_if 116 with (fail)
                                   go_cut [] (fun wc => ∃ (kq : Nat), Aside0 (testamurlaw13_DependsFirst.j11 kq l1 t343 t344 t345 x10_7 x11_9 a0_0 a0_1 a0_2 a0_3 l0_4 l0_5 = some r) ∧ Aside0 (kq ≤ kj48) ∧ Aside0 (wc.heap[gb339]? = some (.cells #[.string a0_0, .string a0_1, .int .i64 a0_2, .int .i64 a0_3, (.slice A0_4 l0_4.length c0_4), (.slice (some ad356) l0_5.length c0_5)] 25 (0, 0))) ∧ Aside0 (Below w.heap.size w wc))
                                   case first =>
                                    have H := HC51.out
                                    clear HC51
                                    by_cases c52 : x116_48 = true
                                    ·subst c52
                                     have H1 : (testamurlaw13_DependsFirst.l0 kj48 l1 t343 t344 t345 (wrap64 (x10_7 + 1)) a0_0 a0_1 a0_2 a0_3 l0_4 l0_5) = some r := by rw [if_pos rfl] at H; exact H
                                     clear H
                                     have H := H1
                                     clear H1
                                     have H' := Aside0.mk H
                                     clear H
                                     go_wp2
                                     go_roundg kj48
                                     case measure => have := HJ3.out; have := HJ7.out; have := HJ15.out; have := HJ18.out; have := HJ22.out; have := HJ39.out; have := HK7.out; have := HJ44.out; have := HK9.out; have := HJ46.out; have := HJ48.out; omega
                                     case rel => exact ⟨(wrap64 (x10_7 + 1)), (by first | rfl | (simp; done) | (simp [*]; done)), H', ⟨by have := HJ3.out; have := HJ7.out; have := HJ15.out; have := HJ18.out; have := HJ22.out; have := HJ39.out; have := HK7.out; have := HJ44.out; have := HK9.out; have := HJ46.out; have := HJ48.out; omega⟩, ⟨by (with_reducible repeat (first | refine blk_drewN ?_ _ | refine blk_drew ?_ | refine blk_alloc ?_ _)); exact BK339.out⟩, ⟨by repeat (first | (with_reducible first | exact HB.out | apply below_alloc | apply pw_below_drewN | apply below_drew1 | refine below_set ?_ GE339.out) | exact HB.out)⟩⟩
                                    ·replace c52 := Bool.eq_false_iff.mpr c52
                                     subst c52
                                     have H1 : (testamurlaw13_DependsFirst.j11 kj48 l1 t343 t344 t345 x10_7 x11_9 a0_0 a0_1 a0_2 a0_3 l0_4 l0_5) = some r := by rw [if_neg (show ¬ (false = true) by decide)] at H; exact H
                                     clear H
                                     have H := H1
                                     clear H1
                                     have H' := Aside0.mk H
                                     clear H
                                     go_wp2
                                     go_meet
                                     case rel => exact ⟨_, H', ⟨by have := HJ3.out; have := HJ7.out; have := HJ15.out; have := HJ18.out; have := HJ22.out; have := HJ39.out; have := HK7.out; have := HJ44.out; have := HK9.out; have := HJ46.out; have := HJ48.out; first | omega | exact Nat.le_refl _⟩, ⟨by (with_reducible repeat (first | refine blk_drewN ?_ _ | refine blk_drew ?_ | refine blk_alloc ?_ _)); exact BK339.out⟩, ⟨by repeat (first | (with_reducible first | exact HB.out | apply below_alloc | apply pw_below_drewN | apply below_drew1 | refine below_set ?_ GE339.out) | exact HB.out)⟩⟩
                                   case rest =>
                                    clear HC51
                                    try clear c1
                                    try clear c2
                                    try clear p2
                                    try clear c3
                                    try clear p3
                                    try clear q3
                                    try clear hx3
                                    try clear c4
                                    try clear c5
                                    try clear p6
                                    try clear c7
                                    try clear c8
                                    try clear c10
                                    try clear c11
                                    try clear c17
                                    try clear c20
                                    try clear c22
                                    try clear c22b0
                                    try clear c22b1
                                    try clear c24
                                    try clear c25
                                    try clear c25b0
                                    try clear c25b1
                                    try clear c26
                                    try clear c26b0
                                    try clear c26b1
                                    try clear c27
                                    try clear c27b0
                                    try clear c27b1
                                    try clear c28
                                    try clear c28b0
                                    try clear c29
                                    try clear c29b0
                                    try clear c30
                                    try clear c30b0
                                    try clear c31
                                    try clear c31b0
                                    try clear c32
                                    try clear c32b0
                                    try clear c33
                                    try clear c33b0
                                    try clear c34
                                    try clear c34b0
                                    try clear c35
                                    try clear c35b0
                                    try clear p35
                                    try clear q35
                                    try clear hx35
                                    try clear c36
                                    try clear c36b0
                                    try clear c37
                                    try clear c37b0
                                    try clear c38
                                    try clear c38b0
                                    try clear c43
                                    try clear c46
                                    try clear c46b0
                                    try clear c48
                                    try clear c48b0
                                    try clear c50
                                    try clear c50b0
                                    try clear c50b1
                                    try clear c52
                                    try clear hcz12_0
                                    try clear hcz12_1
                                    try clear hcz12_2
                                    try clear hcz12_3
                                    try clear hcz12_4
                                    try clear hcz12_5
                                    try clear hcz14_0
                                    try clear hcz14_1
                                    try clear hcz14_2
                                    try clear hcz14_3
                                    try clear hcz14_4
                                    try clear hcz14_5
                                    try clear hcz20_0
                                    try clear hcz20_1
                                    try clear hcz20_2
                                    try clear hcz20_3
                                    try clear hcz20_4
                                    try clear hcz20_5
                                    try clear hfz12_0
                                    try clear hfz12_1
                                    try clear hfz12_2
                                    try clear hfz12_3
                                    try clear hfz12_4
                                    try clear hfz12_5
                                    try clear hfz14_0
                                    try clear hfz14_1
                                    try clear hfz14_2
                                    try clear hfz14_3
                                    try clear hfz14_4
                                    try clear hfz14_5
                                    try clear hfz20_0
                                    try clear hfz20_1
                                    try clear hfz20_2
                                    try clear hfz20_3
                                    try clear hfz20_4
                                    try clear hfz20_5
                                    try clear hx350_0
                                    try clear hx350_1
                                    try clear hx350_2
                                    try clear hx350_3
                                    try clear hx353_0
                                    try clear hx353_1
                                    try clear hx353_2
                                    try clear hx353_3
                                    try clear hx356_0
                                    try clear hx356_1
                                    try clear hx356_2
                                    try clear hx356_3
                                    try clear p2
                                    try clear p3
                                    try clear p35
                                    try clear p350
                                    try clear p353
                                    try clear p356
                                    try clear p6
                                    try clear q3
                                    try clear q35
                                    try clear q350
                                    try clear q353
                                    try clear q356
                                    obtain ⟨kq, HA, HJ50, BK339, HB⟩ := hcut
                                    cases kq with
                                    | zero => exact absurd HA.out (by simp [testamurlaw13_DependsFirst.j11])
                                    | succ kj50 =>
                                     have H := HA.out
                                     clear HA
                                     simp only [testamurlaw13_DependsFirst.j11] at H
                                     have H' := Aside0.mk H
                                     clear H
                                     have hcz53_0 : wc.cell? ⟨gb339, 0, none⟩ = some (.string a0_0) := (blk_cell BK339.out 0).trans rfl
                                     have hcz53_1 : wc.cell? ⟨gb339, 1, none⟩ = some (.string a0_1) := (blk_cell BK339.out 1).trans rfl
                                     have hcz53_2 : wc.cell? ⟨gb339, 2, none⟩ = some (.int .i64 a0_2) := (blk_cell BK339.out 2).trans rfl
                                     have hcz53_3 : wc.cell? ⟨gb339, 3, none⟩ = some (.int .i64 a0_3) := (blk_cell BK339.out 3).trans rfl
                                     have hcz53_4 : wc.cell? ⟨gb339, 4, none⟩ = some (.slice A0_4 l0_4.length c0_4) := (blk_cell BK339.out 4).trans rfl
                                     have hcz53_5 : wc.cell? ⟨gb339, 5, none⟩ = some (.slice (some ad356) l0_5.length c0_5) := (blk_cell BK339.out 5).trans rfl
                                     have hfz53_0 := blk_frozen BK339.out 0
                                     have hfz53_1 := blk_frozen BK339.out 1
                                     have hfz53_2 := blk_frozen BK339.out 2
                                     have hfz53_3 := blk_frozen BK339.out 3
                                     have hfz53_4 := blk_frozen BK339.out 4
                                     have hfz53_5 := blk_frozen BK339.out 5
                                     go_wp2
                                     go_loopg [120] kj50 (fun kq v120 w' => ∃ (x120_13 : Int), v120 = .int .i64 x120_13 ∧ Aside0 (testamurlaw13_DependsFirst.l2 kq l1 t343 t344 t345 x10_7 x11_9 l0_5 (l0_5.length : Int) x120_13 a0_0 a0_1 a0_2 a0_3 l0_4 l0_5 = some r) ∧ Aside0 (kq ≤ kj50) ∧ Aside0 (w'.heap[gb339]? = some (.cells #[.string a0_0, .string a0_1, .int .i64 a0_2, .int .i64 a0_3, (.slice A0_4 l0_4.length c0_4), (.slice (some ad356) l0_5.length c0_5)] 25 (0, 0))) ∧ Aside0 (Below w.heap.size w w'))
                                     case atStart => exact ⟨(0), (by first | rfl | (simp; done) | (simp [*]; done)), H', ⟨Nat.le_refl _⟩, ⟨by (with_reducible repeat (first | refine blk_drewN ?_ _ | refine blk_drew ?_ | refine blk_alloc ?_ _)); exact BK339.out⟩, ⟨by repeat (first | (with_reducible first | exact HB.out | apply below_alloc | apply pw_below_drewN | apply below_drew1 | refine below_set ?_ GE339.out) | exact HB.out)⟩⟩
                                     case round =>
                                      clear H'
                                      try clear c1
                                      try clear c2
                                      try clear p2
                                      try clear c3
                                      try clear p3
                                      try clear q3
                                      try clear hx3
                                      try clear c4
                                      try clear c5
                                      try clear p6
                                      try clear c7
                                      try clear c8
                                      try clear c10
                                      try clear c11
                                      try clear c17
                                      try clear c20
                                      try clear c22
                                      try clear c22b0
                                      try clear c22b1
                                      try clear c24
                                      try clear c25
                                      try clear c25b0
                                      try clear c25b1
                                      try clear c26
                                      try clear c26b0
                                      try clear c26b1
                                      try clear c27
                                      try clear c27b0
                                      try clear c27b1
                                      try clear c28
                                      try clear c28b0
                                      try clear c29
                                      try clear c29b0
                                      try clear c30
                                      try clear c30b0
                                      try clear c31
                                      try clear c31b0
                                      try clear c32
                                      try clear c32b0
                                      try clear c33
                                      try clear c33b0
                                      try clear c34
                                      try clear c34b0
                                      try clear c35
                                      try clear c35b0
                                      try clear p35
                                      try clear q35
                                      try clear hx35
                                      try clear c36
                                      try clear c36b0
                                      try clear c37
                                      try clear c37b0
                                      try clear c38
                                      try clear c38b0
                                      try clear c43
                                      try clear c46
                                      try clear c46b0
                                      try clear c48
                                      try clear c48b0
                                      try clear c50
                                      try clear c50b0
                                      try clear c50b1
                                      try clear c52
                                      try clear hcz12_0
                                      try clear hcz12_1
                                      try clear hcz12_2
                                      try clear hcz12_3
                                      try clear hcz12_4
                                      try clear hcz12_5
                                      try clear hcz14_0
                                      try clear hcz14_1
                                      try clear hcz14_2
                                      try clear hcz14_3
                                      try clear hcz14_4
                                      try clear hcz14_5
                                      try clear hcz20_0
                                      try clear hcz20_1
                                      try clear hcz20_2
                                      try clear hcz20_3
                                      try clear hcz20_4
                                      try clear hcz20_5
                                      try clear hcz53_0
                                      try clear hcz53_1
                                      try clear hcz53_2
                                      try clear hcz53_3
                                      try clear hcz53_4
                                      try clear hcz53_5
                                      try clear hfz12_0
                                      try clear hfz12_1
                                      try clear hfz12_2
                                      try clear hfz12_3
                                      try clear hfz12_4
                                      try clear hfz12_5
                                      try clear hfz14_0
                                      try clear hfz14_1
                                      try clear hfz14_2
                                      try clear hfz14_3
                                      try clear hfz14_4
                                      try clear hfz14_5
                                      try clear hfz20_0
                                      try clear hfz20_1
                                      try clear hfz20_2
                                      try clear hfz20_3
                                      try clear hfz20_4
                                      try clear hfz20_5
                                      try clear hfz53_0
                                      try clear hfz53_1
                                      try clear hfz53_2
                                      try clear hfz53_3
                                      try clear hfz53_4
                                      try clear hfz53_5
                                      try clear hx350_0
                                      try clear hx350_1
                                      try clear hx350_2
                                      try clear hx350_3
                                      try clear hx353_0
                                      try clear hx353_1
                                      try clear hx353_2
                                      try clear hx353_3
                                      try clear hx356_0
                                      try clear hx356_1
                                      try clear hx356_2
                                      try clear hx356_3
                                      try clear p2
                                      try clear p3
                                      try clear p35
                                      try clear p350
                                      try clear p353
                                      try clear p356
                                      try clear p6
                                      try clear q3
                                      try clear q35
                                      try clear q350
                                      try clear q353
                                      try clear q356
                                      obtain ⟨x120_13, rfl, HA, HK13, BK339, HB⟩ := hrel
                                      cases gk with
                                      | zero => exact absurd HA.out (by simp [testamurlaw13_DependsFirst.l2])
                                      | succ k13 =>
                                       have H := HA.out
                                       clear HA
                                       simp only [testamurlaw13_DependsFirst.l2] at H
                                       by_cases c54 : x120_13 < (l0_5.length : Int)
                                       ·rw [if_pos c54] at H
                                        have c54b0 : decide (x120_13 < (l0_5.length : Int)) = true := decide_eq_true c54
                                        clear c54
                                        by_cases c55 : 0 ≤ x120_13
                                        ·rw [if_pos c55] at H
                                         have c55b0 : decide (0 ≤ x120_13) = true := decide_eq_true c55
                                         clear c55
                                         by_cases c56 : x120_13 < (l0_5.length : Int)
                                         ·rw [if_pos c56] at H
                                          have c56b0 : decide (x120_13 < (l0_5.length : Int)) = true := decide_eq_true c56
                                          clear c56
                                          by_cases c57 : 0 ≤ x10_7
                                          ·rw [if_pos c57] at H
                                           have c57b0 : decide (0 ≤ x10_7) = true := decide_eq_true c57
                                           clear c57
                                           by_cases c58 : x10_7 < (l1.length : Int)
                                           ·rw [if_pos c58] at H
                                            have c58b0 : decide (x10_7 < (l1.length : Int)) = true := decide_eq_true c58
                                            clear c58
                                            by_cases c59 : 0 ≤ x11_9
                                            ·rw [if_pos c59] at H
                                             have c59b0 : decide (0 ≤ x11_9) = true := decide_eq_true c59
                                             clear c59
                                             by_cases c60 : x11_9 < (l1.length : Int)
                                             ·rw [if_pos c60] at H
                                              have c60b0 : decide (x11_9 < (l1.length : Int)) = true := decide_eq_true c60
                                              clear c60
                                              replace H := Option.bind_eq_some_iff.mp H
                                              obtain ⟨t368, A610, H⟩ := H
                                              replace H : (if t368 = true then (none) else (testamurlaw13_DependsFirst.l2 k13 l1 t343 t344 t345 x10_7 x11_9 l0_5 (l0_5.length : Int) (wrap64 (x120_13 + 1)) a0_0 a0_1 a0_2 a0_3 l0_4 l0_5)) = some r := H
                                              have A61 := Aside0.mk A610
                                              clear A610
                                              by_cases c62 : t368 = true
                                              ·subst c62
                                               have H1 : (none) = some r := by rw [if_pos rfl] at H; exact H
                                               clear H
                                               have H := H1
                                               clear H1
                                               exact absurd H (by simp)
                                              ·replace c62 := Bool.eq_false_iff.mpr c62
                                               subst c62
                                               have H1 : (testamurlaw13_DependsFirst.l2 k13 l1 t343 t344 t345 x10_7 x11_9 l0_5 (l0_5.length : Int) (wrap64 (x120_13 + 1)) a0_0 a0_1 a0_2 a0_3 l0_4 l0_5) = some r := by rw [if_neg (show ¬ (false = true) by decide)] at H; exact H
                                               clear H
                                               have H := H1
                                               clear H1
                                               have H' := Aside0.mk H
                                               clear H
                                               have p360 : 0 ≤ (x120_13 : Int) := of_decide_eq_true (by first | (with_reducible assumption) | assumption)
                                               have q360 : x120_13 < (l0_5.length : Int) := of_decide_eq_true (by first | (with_reducible assumption) | assumption)
                                               obtain ⟨ad360, A360_0, c360_0, A360_2, c360_2, e360, hx360_0, hx360_1, hx360_2, hx360_3, hl360_0, hi360_0, hl360_2, hi360_2⟩ := at_T29 HR0_5.out x120_13 p360 q360
                                               obtain rfl : ad356 = ad360 := (by injection e360)
                                               replace hx360_0 := (HB.out.cell (World.block_lt_of_cell? w _ hx360_0)).trans hx360_0
                                               replace hx360_1 := (HB.out.cell (World.block_lt_of_cell? w _ hx360_1)).trans hx360_1
                                               replace hx360_2 := (HB.out.cell (World.block_lt_of_cell? w _ hx360_2)).trans hx360_2
                                               replace hx360_3 := (HB.out.cell (World.block_lt_of_cell? w _ hx360_3)).trans hx360_3
                                               have HR360_0 := Aside0.mk hi360_0
                                               have HC360_0 := Aside0.mk hl360_0
                                               clear hi360_0 hl360_0
                                               have HR360_2 := Aside0.mk hi360_2
                                               have HC360_2 := Aside0.mk hl360_2
                                               clear hi360_2 hl360_2
                                               replace p360 := eq_true p360
                                               replace q360 := eq_true q360
                                               go_wp2_with ((with_reducible refine gate_dst (N := 13) rfl ?_); (try (refine gate_guard (by rfl) ?_; dsimp only)); refine Aside0.out (p := _) ?_)
                                               refine ⟨?_⟩
                                               refine box_event ?hg (N := 13) ?hd (cs := #[.slice none 0 0, .string (⟨#[]⟩ : ByteArray), .slice none 0 0, .int .i64 0]) (t := 29) ?hr ?_; (case hd => rfl); (case hg => rfl); (case hr => first | (go_simp; done) | (go_simp; rfl))
                                               intro gb361 hg w63 hbox hb
                                               have n0_ := Aside0.mk (blk_below (g := gb339) (o := .cells #[.string a0_0, .string a0_1, .int .i64 a0_2, .int .i64 a0_3, .slice A0_4 l0_4.length c0_4, .slice (some ad356) l0_5.length c0_5] 25 (0, 0)) (by (with_reducible repeat (first | refine blk_drewN ?_ _ | refine blk_drew ?_ | refine blk_alloc ?_ _)); exact BK339.out) hb)
                                               have n1_ := Aside0.mk (below_step (by repeat (first | (with_reducible first | exact HB.out | apply below_alloc | apply pw_below_drewN | apply below_drew1 | refine below_set ?_ GE339.out) | exact HB.out)) hb)
                                               have n2_ := Aside0.mk (hbox)
                                               have n3_ := Aside0.mk ((by rw [hg]; exact (below_size (by repeat (first | (with_reducible first | exact HB.out | apply below_alloc | apply pw_below_drewN | apply below_drew1 | refine below_set ?_ GE339.out) | exact HB.out))) : w.heap.size ≤ gb361))
                                               have n4_ := Aside0.mk ((by rw [hg]; exact (below_size (by repeat (first | (with_reducible first | exact HB.out | apply below_alloc | apply pw_below_drewN | apply below_drew1 | refine below_set ?_ GE339.out) | exact HB.out))) : w.heap.size ≤ gb361))
                                               have n5_ := Aside0.mk ((by rw [hg]; exact Nat.ne_of_lt (blk_lt (g := gb339) (o := .cells #[.string a0_0, .string a0_1, .int .i64 a0_2, .int .i64 a0_3, .slice A0_4 l0_4.length c0_4, .slice (some ad356) l0_5.length c0_5] 25 (0, 0)) (by (with_reducible repeat (first | refine blk_drewN ?_ _ | refine blk_drew ?_ | refine blk_alloc ?_ _)); exact BK339.out)) : gb339 ≠ gb361))
                                               have n6_ := Aside0.mk ((by rw [hg]; exact Nat.ne_of_gt (blk_lt (g := gb339) (o := .cells #[.string a0_0, .string a0_1, .int .i64 a0_2, .int .i64 a0_3, .slice A0_4 l0_4.length c0_4, .slice (some ad356) l0_5.length c0_5] 25 (0, 0)) (by (with_reducible repeat (first | refine blk_drewN ?_ _ | refine blk_drew ?_ | refine blk_alloc ?_ _)); exact BK339.out)) : gb361 ≠ gb339))
                                               clear BK339
                                               clear HB
                                               have BK339 := n0_
                                               have HB := n1_
                                               have BK361 := n2_
                                               have GW361 := n3_
                                               have GE361 := n4_
                                               have NB339_361 := n5_
                                               have NB361_339 := n6_
                                               clear n0_ n1_ n2_ n3_ n4_ n5_ n6_
                                               clear hb hbox hg
                                               have hnb64 := NB361_339.out
                                               have hnc64 := NB339_361.out
                                               have hcz65_0 : w63.cell? ⟨gb361, 0, none⟩ = some (.slice none 0 0) := (blk_cell BK361.out 0).trans rfl
                                               have hcz65_1 : w63.cell? ⟨gb361, 1, none⟩ = some (.string (⟨#[]⟩ : ByteArray)) := (blk_cell BK361.out 1).trans rfl
                                               have hcz65_2 : w63.cell? ⟨gb361, 2, none⟩ = some (.slice none 0 0) := (blk_cell BK361.out 2).trans rfl
                                               have hcz65_3 : w63.cell? ⟨gb361, 3, none⟩ = some (.int .i64 0) := (blk_cell BK361.out 3).trans rfl
                                               have hfz65_0 := blk_frozen BK361.out 0
                                               have hfz65_1 := blk_frozen BK361.out 1
                                               have hfz65_2 := blk_frozen BK361.out 2
                                               have hfz65_3 := blk_frozen BK361.out 3
                                               go_wp2
                                               have n0_ : Aside0 (((((w63.setCell ⟨gb361, 0, none⟩ (.slice A360_0 ((rd_T29 l0_5 x120_13).f0).length c360_0)).setCell ⟨gb361, 1, none⟩ (.string ((rd_T29 l0_5 x120_13).f1))).setCell ⟨gb361, 2, none⟩ (.slice A360_2 ((rd_T29 l0_5 x120_13).f2).length c360_2)).setCell ⟨gb361, 3, none⟩ (.int .i64 ((rd_T29 l0_5 x120_13).f3))).heap[gb339]? = some (.cells #[.string a0_0, .string a0_1, .int .i64 a0_2, .int .i64 a0_3, .slice A0_4 l0_4.length c0_4, .slice (some ad356) l0_5.length c0_5] 25 (0, 0))) := ⟨by (with_reducible repeat (first | refine blk_drewN ?_ _ | refine blk_drew ?_ | refine blk_alloc ?_ _)); refine blk_far ?_ NB339_361.out _; (with_reducible repeat (first | refine blk_drewN ?_ _ | refine blk_drew ?_ | refine blk_alloc ?_ _)); refine blk_far ?_ NB339_361.out _; (with_reducible repeat (first | refine blk_drewN ?_ _ | refine blk_drew ?_ | refine blk_alloc ?_ _)); refine blk_far ?_ NB339_361.out _; (with_reducible repeat (first | refine blk_drewN ?_ _ | refine blk_drew ?_ | refine blk_alloc ?_ _)); refine blk_far ?_ NB339_361.out _; (with_reducible repeat (first | refine blk_drewN ?_ _ | refine blk_drew ?_ | refine blk_alloc ?_ _)); exact BK339.out⟩
                                               have n1_ : Aside0 (((((w63.setCell ⟨gb361, 0, none⟩ (.slice A360_0 ((rd_T29 l0_5 x120_13).f0).length c360_0)).setCell ⟨gb361, 1, none⟩ (.string ((rd_T29 l0_5 x120_13).f1))).setCell ⟨gb361, 2, none⟩ (.slice A360_2 ((rd_T29 l0_5 x120_13).f2).length c360_2)).setCell ⟨gb361, 3, none⟩ (.int .i64 ((rd_T29 l0_5 x120_13).f3))).heap[gb361]? = some (.cells #[.slice A360_0 ((rd_T29 l0_5 x120_13).f0).length c360_0, .string ((rd_T29 l0_5 x120_13).f1), .slice A360_2 ((rd_T29 l0_5 x120_13).f2).length c360_2, .int .i64 ((rd_T29 l0_5 x120_13).f3)] 29 (0, 0))) := ⟨by (with_reducible repeat (first | refine blk_drewN ?_ _ | refine blk_drew ?_ | refine blk_alloc ?_ _)); refine blk_put (cs := #[.slice A360_0 ((rd_T29 l0_5 x120_13).f0).length c360_0, .string ((rd_T29 l0_5 x120_13).f1), .slice A360_2 ((rd_T29 l0_5 x120_13).f2).length c360_2, .int .i64 0]) ?_ 3 _ rfl; (with_reducible repeat (first | refine blk_drewN ?_ _ | refine blk_drew ?_ | refine blk_alloc ?_ _)); refine blk_put (cs := #[.slice A360_0 ((rd_T29 l0_5 x120_13).f0).length c360_0, .string ((rd_T29 l0_5 x120_13).f1), .slice none 0 0, .int .i64 0]) ?_ 2 _ rfl; (with_reducible repeat (first | refine blk_drewN ?_ _ | refine blk_drew ?_ | refine blk_alloc ?_ _)); refine blk_put (cs := #[.slice A360_0 ((rd_T29 l0_5 x120_13).f0).length c360_0, .string (⟨#[]⟩ : ByteArray), .slice none 0 0, .int .i64 0]) ?_ 1 _ rfl; (with_reducible repeat (first | refine blk_drewN ?_ _ | refine blk_drew ?_ | refine blk_alloc ?_ _)); refine blk_put (cs := #[.slice none 0 0, .string (⟨#[]⟩ : ByteArray), .slice none 0 0, .int .i64 0]) ?_ 0 _ rfl; (with_reducible repeat (first | refine blk_drewN ?_ _ | refine blk_drew ?_ | refine blk_alloc ?_ _)); exact BK361.out⟩
                                               have n2_ : Aside0 (Below w.heap.size w ((((w63.setCell ⟨gb361, 0, none⟩ (.slice A360_0 ((rd_T29 l0_5 x120_13).f0).length c360_0)).setCell ⟨gb361, 1, none⟩ (.string ((rd_T29 l0_5 x120_13).f1))).setCell ⟨gb361, 2, none⟩ (.slice A360_2 ((rd_T29 l0_5 x120_13).f2).length c360_2)).setCell ⟨gb361, 3, none⟩ (.int .i64 ((rd_T29 l0_5 x120_13).f3)))) := ⟨by repeat (first | (with_reducible first | exact HB.out | apply below_alloc | apply pw_below_drewN | apply below_drew1 | refine below_set ?_ GE339.out | refine below_set ?_ GE361.out) | exact HB.out)⟩
                                               (try clear BK339)
                                               (try clear BK361)
                                               (try clear HB)
                                               generalize ((((w63.setCell ⟨gb361, 0, none⟩ (.slice A360_0 ((rd_T29 l0_5 x120_13).f0).length c360_0)).setCell ⟨gb361, 1, none⟩ (.string ((rd_T29 l0_5 x120_13).f1))).setCell ⟨gb361, 2, none⟩ (.slice A360_2 ((rd_T29 l0_5 x120_13).f2).length c360_2)).setCell ⟨gb361, 3, none⟩ (.int .i64 ((rd_T29 l0_5 x120_13).f3))) = w66 at n0_ n1_ n2_ ⊢
                                               have BK339 := n0_
                                               have BK361 := n1_
                                               have HB := n2_
                                               clear n0_ n1_ n2_
                                               have n0_ := Aside0.mk (blk_drew BK339.out)
                                               have n1_ := Aside0.mk (blk_drew BK361.out)
                                               have n2_ := Aside0.mk (below_drew1 HB.out)
                                               clear BK339
                                               clear BK361
                                               clear HB
                                               have BK339 := n0_
                                               have BK361 := n1_
                                               have HB := n2_
                                               clear n0_ n1_ n2_
                                               have p364 : 0 ≤ (x10_7 : Int) := of_decide_eq_true (by first | (with_reducible assumption) | assumption)
                                               have q364 : x10_7 < (l1.length : Int) := of_decide_eq_true (by first | (with_reducible assumption) | assumption)
                                               obtain ⟨ad364, A364_3, c364_3, e364, hx364_0, hx364_1, hx364_2, hx364_3, hl364_3, hi364_3⟩ := at_T49 HR1.out x10_7 p364 q364
                                               have hw364_3 := hx364_3
                                               have hw364_2 := hx364_2
                                               have hw364_1 := hx364_1
                                               have hw364_0 := hx364_0
                                               obtain rfl : ad350 = ad364 := (by injection e364)
                                               replace hx364_0 := (HB.out.cell (World.block_lt_of_cell? w _ hx364_0)).trans hx364_0
                                               replace hx364_1 := (HB.out.cell (World.block_lt_of_cell? w _ hx364_1)).trans hx364_1
                                               replace hx364_2 := (HB.out.cell (World.block_lt_of_cell? w _ hx364_2)).trans hx364_2
                                               replace hx364_3 := (HB.out.cell (World.block_lt_of_cell? w _ hx364_3)).trans hx364_3
                                               have HR364_3 := Aside0.mk hi364_3
                                               have HC364_3 := Aside0.mk hl364_3
                                               clear hi364_3 hl364_3
                                               replace p364 := eq_true p364
                                               replace q364 := eq_true q364
                                               have p367 : 0 ≤ (x11_9 : Int) := of_decide_eq_true (by first | (with_reducible assumption) | assumption)
                                               have q367 : x11_9 < (l1.length : Int) := of_decide_eq_true (by first | (with_reducible assumption) | assumption)
                                               obtain ⟨ad367, A367_3, c367_3, e367, hx367_0, hx367_1, hx367_2, hx367_3, hl367_3, hi367_3⟩ := at_T49 HR1.out x11_9 p367 q367
                                               have hw367_3 := hx367_3
                                               have hw367_2 := hx367_2
                                               have hw367_1 := hx367_1
                                               have hw367_0 := hx367_0
                                               obtain rfl : ad350 = ad367 := (by injection e367)
                                               replace hx367_0 := (HB.out.cell (World.block_lt_of_cell? w _ hx367_0)).trans hx367_0
                                               replace hx367_1 := (HB.out.cell (World.block_lt_of_cell? w _ hx367_1)).trans hx367_1
                                               replace hx367_2 := (HB.out.cell (World.block_lt_of_cell? w _ hx367_2)).trans hx367_2
                                               replace hx367_3 := (HB.out.cell (World.block_lt_of_cell? w _ hx367_3)).trans hx367_3
                                               have HR367_3 := Aside0.mk hi367_3
                                               have HC367_3 := Aside0.mk hl367_3
                                               clear hi367_3 hl367_3
                                               replace p367 := eq_true p367
                                               replace q367 := eq_true q367
                                               refine start_ (n := 10) (S := fun w' => w'.cell? ⟨gb361, 0, none⟩ = some (.slice A360_0 ((rd_T29 l0_5 x120_13).f0).length c360_0) ∧ w'.cell? ⟨gb361, 1, none⟩ = some (.string ((rd_T29 l0_5 x120_13).f1)) ∧ w'.cell? ⟨gb361, 2, none⟩ = some (.slice A360_2 ((rd_T29 l0_5 x120_13).f2).length c360_2) ∧ w'.cell? ⟨gb361, 3, none⟩ = some (.int .i64 ((rd_T29 l0_5 x120_13).f3)) ∧ w'.cell? (ad350.add ((x10_7).toNat * 4)) = some (.int .i64 ((rd_T49 l1 x10_7).f0)) ∧ w'.cell? ⟨(ad350.add ((x10_7).toNat * 4)).block, (ad350.add ((x10_7).toNat * 4)).off + 1, none⟩ = some (.int .i64 ((rd_T49 l1 x10_7).f1)) ∧ w'.cell? ⟨(ad350.add ((x10_7).toNat * 4)).block, (ad350.add ((x10_7).toNat * 4)).off + 2, none⟩ = some (.int .i64 ((rd_T49 l1 x10_7).f2)) ∧ w'.cell? ⟨(ad350.add ((x10_7).toNat * 4)).block, (ad350.add ((x10_7).toNat * 4)).off + 3, none⟩ = some (.slice A364_3 ((rd_T49 l1 x10_7).f3).length c364_3) ∧ w'.cell? (ad350.add ((x11_9).toNat * 4)) = some (.int .i64 ((rd_T49 l1 x11_9).f0)) ∧ w'.cell? ⟨(ad350.add ((x11_9).toNat * 4)).block, (ad350.add ((x11_9).toNat * 4)).off + 1, none⟩ = some (.int .i64 ((rd_T49 l1 x11_9).f1)) ∧ w'.cell? ⟨(ad350.add ((x11_9).toNat * 4)).block, (ad350.add ((x11_9).toNat * 4)).off + 2, none⟩ = some (.int .i64 ((rd_T49 l1 x11_9).f2)) ∧ w'.cell? ⟨(ad350.add ((x11_9).toNat * 4)).block, (ad350.add ((x11_9).toNat * 4)).off + 3, none⟩ = some (.slice A367_3 ((rd_T49 l1 x11_9).f3).length c367_3)) (ds := []) #[false, false, false, false, false, false, false, false, false, false] (by kernel_rfl) rfl rfl ⟨(blk_cell BK361.out 0).trans rfl, (blk_cell BK361.out 1).trans rfl, (blk_cell BK361.out 2).trans rfl, (blk_cell BK361.out 3).trans rfl, ((HB.out.cell (World.block_lt_of_cell? w _ hw364_0)).trans hw364_0), ((HB.out.cell (World.block_lt_of_cell? w _ hw364_1)).trans hw364_1), ((HB.out.cell (World.block_lt_of_cell? w _ hw364_2)).trans hw364_2), ((HB.out.cell (World.block_lt_of_cell? w _ hw364_3)).trans hw364_3), ((HB.out.cell (World.block_lt_of_cell? w _ hw367_0)).trans hw367_0), ((HB.out.cell (World.block_lt_of_cell? w _ hw367_1)).trans hw367_1), ((HB.out.cell (World.block_lt_of_cell? w _ hw367_2)).trans hw367_2), ((HB.out.cell (World.block_lt_of_cell? w _ hw367_3)).trans hw367_3)⟩ (fun hHeld => ?_); refine with_tabW testamurlaw13_DependsFirst.tab20 testamurlaw13_DependsFirst.bits20 (fun HT_ HW_ => ?_)
                                               generalize w66.drew = w67 at BK339 BK361 HB HR364_3 HR367_3 hx364_0 hx364_1 hx364_2 hx364_3 hx367_0 hx367_1 hx367_2 hx367_3 hHeld ⊢
                                               refine pure_ (i := 0) (N := some 124) (v := ?_) (a' := ?_) #[true, false, false, false, false, false, false, false, false, false] rfl rfl (any_of HT_.out (by kernel_rfl)) (fun _ _ _ h => h) (Or.inl ⟨by rfl, ?_⟩) ?_ ?_
                                               rotate_left
                                               ·intro w'
                                                go_simp
                                                with_reducible rfl
                                               rotate_left
                                               ·simp only [Act.put, List.setIfInBounds_toArray, List.set_cons_zero, List.set_cons_succ, i64_w, i32_w]
                                                rfl
                                               refine pure_ (i := 1) (N := some 125) (v := ?_) (a' := ?_) #[true, true, false, false, false, false, false, false, false, false] rfl rfl (any_of HT_.out (by kernel_rfl)) (fun _ _ _ h => h) (Or.inl ⟨by rfl, ?_⟩) ?_ ?_
                                               rotate_left
                                               ·intro w'
                                                go_simp
                                                with_reducible rfl
                                               rotate_left
                                               ·simp only [Act.put, List.setIfInBounds_toArray, List.set_cons_zero, List.set_cons_succ, i64_w, i32_w]
                                                rfl
                                               refine pure_ (i := 2) (N := some 126) (v := ?_) (a' := ?_) #[true, true, true, false, false, false, false, false, false, false] rfl rfl (any_of HT_.out (by kernel_rfl)) (fun _ _ _ h => h) (Or.inl ⟨by rfl, ?_⟩) ?_ ?_
                                               rotate_left
                                               ·intro w'
                                                go_simp
                                                with_reducible rfl
                                               rotate_left
                                               ·simp only [Act.put, List.setIfInBounds_toArray, List.set_cons_zero, List.set_cons_succ, i64_w, i32_w]
                                                rfl
                                               refine pure_ (i := 4) (N := some 128) (v := ?_) (a' := ?_) #[true, true, true, false, true, false, false, false, false, false] rfl rfl (any_of HT_.out (by kernel_rfl)) (fun _ _ _ h => h) (Or.inl ⟨by rfl, ?_⟩) ?_ ?_
                                               rotate_left
                                               ·intro w'
                                                go_simp
                                                with_reducible rfl
                                               rotate_left
                                               ·simp only [Act.put, List.setIfInBounds_toArray, List.set_cons_zero, List.set_cons_succ, i64_w, i32_w]
                                                rfl
                                               refine pure_ (i := 5) (N := some 129) (v := ?_) (a' := ?_) #[true, true, true, false, true, true, false, false, false, false] rfl rfl (any_of HT_.out (by kernel_rfl)) (fun _ _ _ h => h) (Or.inl ⟨by rfl, ?_⟩) ?_ ?_
                                               rotate_left
                                               ·intro w'
                                                go_simp
                                                with_reducible rfl
                                               rotate_left
                                               ·simp only [Act.put, List.setIfInBounds_toArray, List.set_cons_zero, List.set_cons_succ, i64_w, i32_w]
                                                rfl
                                               refine pure_ (i := 6) (N := some 130) (v := ?_) (a' := ?_) #[true, true, true, false, true, true, true, false, false, false] rfl rfl (any_of HT_.out (by kernel_rfl)) (fun _ _ _ h => h) (Or.inl ⟨by rfl, ?_⟩) ?_ ?_
                                               rotate_left
                                               ·intro w'
                                                go_simp
                                                with_reducible rfl
                                               rotate_left
                                               ·simp only [Act.put, List.setIfInBounds_toArray, List.set_cons_zero, List.set_cons_succ, i64_w, i32_w]
                                                rfl
                                               refine take_ (i := 3) (N := some 127) (v := ?_) (a' := ?_) #[true, true, true, true, true, true, true, false, false, false] rfl rfl (take_ofW HT_.out HW_.out (by kernel_rfl)) (fun _ _ _ h => h) (Or.inl ⟨by rfl, ?_⟩) hHeld ?_ ?_
                                               rotate_left
                                               ·rintro w' ⟨s0, s1, s2, s3, s4, s5, s6, s7, s8, s9, s10, s11⟩
                                                go_simp
                                                with_reducible rfl
                                               rotate_left
                                               ·simp only [Act.put, List.setIfInBounds_toArray, List.set_cons_zero, List.set_cons_succ, i64_w, i32_w]
                                                rfl
                                               refine take_ (i := 7) (N := some 131) (v := ?_) (a' := ?_) #[true, true, true, true, true, true, true, true, false, false] rfl rfl (take_ofW HT_.out HW_.out (by kernel_rfl)) (fun _ _ _ h => h) (Or.inl ⟨by rfl, ?_⟩) hHeld ?_ ?_
                                               rotate_left
                                               ·rintro w' ⟨s0, s1, s2, s3, s4, s5, s6, s7, s8, s9, s10, s11⟩
                                                go_simp
                                                with_reducible rfl
                                               rotate_left
                                               ·simp only [Act.put, List.setIfInBounds_toArray, List.set_cons_zero, List.set_cons_succ, i64_w, i32_w]
                                                rfl
                                               refine take_ (i := 8) (N := some 132) (v := ?_) (a' := ?_) #[true, true, true, true, true, true, true, true, true, false] rfl rfl (take_ofW HT_.out HW_.out (by kernel_rfl)) (fun _ _ _ h => h) (Or.inl ⟨by rfl, ?_⟩) hHeld ?_ ?_
                                               rotate_left
                                               ·rintro w' ⟨s0, s1, s2, s3, s4, s5, s6, s7, s8, s9, s10, s11⟩
                                                go_simp
                                                with_reducible rfl
                                               rotate_left
                                               ·simp only [Act.put, List.setIfInBounds_toArray, List.set_cons_zero, List.set_cons_succ, i64_w, i32_w]
                                                rfl
                                               refine one_ (i := 9) (N := some 133) #[true, true, true, true, true, true, true, true, true, true] rfl rfl (one_of HT_.out (by kernel_rfl)) (by decide) (fun K hK => ?_)
                                               refine goes_ Try.func24 (by kernel_rfl) rfl #[.agg #[.int .i64 ((rd_T49 l1 x10_7).f0), .int .i64 ((rd_T49 l1 x10_7).f1), .int .i64 ((rd_T49 l1 x10_7).f2), .slice A364_3 ((rd_T49 l1 x10_7).f3).length c364_3], .agg #[.int .i64 ((rd_T49 l1 x11_9).f0), .int .i64 ((rd_T49 l1 x11_9).f1), .int .i64 ((rd_T49 l1 x11_9).f2), .slice A367_3 ((rd_T49 l1 x11_9).f3).length c367_3], .agg #[.slice A360_0 ((rd_T29 l0_5 x120_13).f0).length c360_0, .string ((rd_T29 l0_5 x120_13).f1), .slice A360_2 ((rd_T29 l0_5 x120_13).f2).length c360_2, .int .i64 ((rd_T29 l0_5 x120_13).f3)]] (by rfl) rfl rfl (by (try simp only [List.map_toArray, List.map_cons, List.map_nil]); first | done | rfl | (simp only [List.length_drop, List.length_take]; rfl)) ?_
                                               with_reducible refine (testamurlaw13_breaks.calls ((rd_T49 l1 x10_7).f0) ((rd_T49 l1 x10_7).f1) ((rd_T49 l1 x10_7).f2) _ _ ((rd_T49 l1 x10_7).f3) ((rd_T49 l1 x11_9).f0) ((rd_T49 l1 x11_9).f1) ((rd_T49 l1 x11_9).f2) _ _ ((rd_T49 l1 x11_9).f3) _ _ ((rd_T29 l0_5 x120_13).f0) ((rd_T29 l0_5 x120_13).f1) _ _ ((rd_T29 l0_5 x120_13).f2) ((rd_T29 l0_5 x120_13).f3) false _ ?side1 ?side2 ?side3 ?side4 ?side5 ?side6 ?side7 ?side8 A61.out).mono ?_
                                               (case side1 => repeat (first | exact (Kd.C_below HR364_3.out HB.out) | (with_reducible refine Kd.C_alloc ?_ _) | (with_reducible refine Kd.C_drewN ?_ _) | (with_reducible refine Kd.C_drew ?_)))
                                               (case side2 => exact HC364_3.out)
                                               (case side3 => repeat (first | exact (Kd.C_below HR367_3.out HB.out) | (with_reducible refine Kd.C_alloc ?_ _) | (with_reducible refine Kd.C_drewN ?_ _) | (with_reducible refine Kd.C_drew ?_)))
                                               (case side4 => exact HC367_3.out)
                                               (case side5 => repeat (first | exact (Kd.C_below HR360_0.out HB.out) | (with_reducible refine Kd.C_alloc ?_ _) | (with_reducible refine Kd.C_drewN ?_ _) | (with_reducible refine Kd.C_drew ?_)))
                                               (case side6 => exact HC360_0.out)
                                               (case side7 => repeat (first | exact (Kd.C_below HR360_2.out HB.out) | (with_reducible refine Kd.C_alloc ?_ _) | (with_reducible refine Kd.C_drewN ?_ _) | (with_reducible refine Kd.C_drew ?_)))
                                               (case side8 => exact HC360_2.out)
                                               rintro e w68 ⟨rfl, hb⟩
                                               refine ⟨_, rfl, ?_⟩
                                               have n0_ := Aside0.mk (blk_below (g := gb339) (o := .cells #[.string a0_0, .string a0_1, .int .i64 a0_2, .int .i64 a0_3, .slice A0_4 l0_4.length c0_4, .slice (some ad356) l0_5.length c0_5] 25 (0, 0)) (by (with_reducible repeat (first | refine blk_drewN ?_ _ | refine blk_drew ?_ | refine blk_alloc ?_ _)); exact BK339.out) hb)
                                               have n1_ := Aside0.mk (blk_below (g := gb361) (o := .cells #[.slice A360_0 ((rd_T29 l0_5 x120_13).f0).length c360_0, .string ((rd_T29 l0_5 x120_13).f1), .slice A360_2 ((rd_T29 l0_5 x120_13).f2).length c360_2, .int .i64 ((rd_T29 l0_5 x120_13).f3)] 29 (0, 0)) (by (with_reducible repeat (first | refine blk_drewN ?_ _ | refine blk_drew ?_ | refine blk_alloc ?_ _)); exact BK361.out) hb)
                                               have n2_ := Aside0.mk (below_step (by repeat (first | (with_reducible first | exact HB.out | apply below_alloc | apply pw_below_drewN | apply below_drew1 | refine below_set ?_ GE339.out | refine below_set ?_ GE361.out) | exact HB.out)) hb)
                                               clear BK339
                                               clear BK361
                                               clear HB
                                               have BK339 := n0_
                                               have BK361 := n1_
                                               have HB := n2_
                                               clear n0_ n1_ n2_
                                               (try clear hb)
                                               (try clear hb2)
                                               (try clear hk)
                                               (try clear hi)
                                               refine hK.out _ _ ⟨(blk_cell BK361.out 0).trans rfl, (blk_cell BK361.out 1).trans rfl, (blk_cell BK361.out 2).trans rfl, (blk_cell BK361.out 3).trans rfl, ((HB.out.cell (World.block_lt_of_cell? w _ hw364_0)).trans hw364_0), ((HB.out.cell (World.block_lt_of_cell? w _ hw364_1)).trans hw364_1), ((HB.out.cell (World.block_lt_of_cell? w _ hw364_2)).trans hw364_2), ((HB.out.cell (World.block_lt_of_cell? w _ hw364_3)).trans hw364_3), ((HB.out.cell (World.block_lt_of_cell? w _ hw367_0)).trans hw367_0), ((HB.out.cell (World.block_lt_of_cell? w _ hw367_1)).trans hw367_1), ((HB.out.cell (World.block_lt_of_cell? w _ hw367_2)).trans hw367_2), ((HB.out.cell (World.block_lt_of_cell? w _ hw367_3)).trans hw367_3)⟩ (fun hHeld => ?_)
                                               clear hK K
                                               refine norm_ (a' := ?_) ?_ ?_
                                               rotate_left
                                               ·show Act.put _ (some 133) _ = _
                                                simp only [Act.put, List.setIfInBounds_toArray, List.set_cons_zero, List.set_cons_succ, i64_w, i32_w]
                                                rfl
                                               refine done_ (done_of HT_.out (by kernel_rfl)) ?_
                                               go_wp2
                                               go_roundg k13
                                               case measure => have := HJ3.out; have := HJ7.out; have := HJ15.out; have := HJ18.out; have := HJ22.out; have := HJ39.out; have := HK7.out; have := HJ44.out; have := HK9.out; have := HJ46.out; have := HJ48.out; have := HJ50.out; have := HK13.out; omega
                                               case rel => exact ⟨(wrap64 (x120_13 + 1)), (by first | rfl | (simp; done) | (simp [*]; done)), H', ⟨by have := HJ3.out; have := HJ7.out; have := HJ15.out; have := HJ18.out; have := HJ22.out; have := HJ39.out; have := HK7.out; have := HJ44.out; have := HK9.out; have := HJ46.out; have := HJ48.out; have := HJ50.out; have := HK13.out; omega⟩, ⟨by (with_reducible repeat (first | refine blk_drewN ?_ _ | refine blk_drew ?_ | refine blk_alloc ?_ _)); exact BK339.out⟩, ⟨by repeat (first | (with_reducible first | exact HB.out | apply below_alloc | apply pw_below_drewN | apply below_drew1 | refine below_set ?_ GE339.out | refine below_set ?_ GE361.out) | exact HB.out)⟩⟩
                                             ·rw [if_neg c60] at H
                                              exact absurd H (by simp)
                                            ·rw [if_neg c59] at H
                                             exact absurd H (by simp)
                                           ·rw [if_neg c58] at H
                                            exact absurd H (by simp)
                                          ·rw [if_neg c57] at H
                                           exact absurd H (by simp)
                                         ·rw [if_neg c56] at H
                                          exact absurd H (by simp)
                                        ·rw [if_neg c55] at H
                                         exact absurd H (by simp)
                                       ·rw [if_neg c54] at H
                                        have c54b0 : decide (x120_13 < (l0_5.length : Int)) = false := decide_eq_false c54
                                        clear c54
                                        have H' := Aside0.mk H
                                        clear H
                                        go_wp2
                                        go_roundg k13
                                        case measure => have := HJ3.out; have := HJ7.out; have := HJ15.out; have := HJ18.out; have := HJ22.out; have := HJ39.out; have := HK7.out; have := HJ44.out; have := HK9.out; have := HJ46.out; have := HJ48.out; have := HJ50.out; have := HK13.out; omega
                                        case rel => exact ⟨(wrap64 (x11_9 + 1)), (by first | rfl | (simp; done) | (simp [*]; done)), H', ⟨by have := HJ3.out; have := HJ7.out; have := HJ15.out; have := HJ18.out; have := HJ22.out; have := HJ39.out; have := HK7.out; have := HJ44.out; have := HK9.out; have := HJ46.out; have := HJ48.out; have := HJ50.out; have := HK13.out; omega⟩, ⟨by (with_reducible repeat (first | refine blk_drewN ?_ _ | refine blk_drew ?_ | refine blk_alloc ?_ _)); exact BK339.out⟩, ⟨by repeat (first | (with_reducible first | exact HB.out | apply below_alloc | apply pw_below_drewN | apply below_drew1 | refine below_set ?_ GE339.out) | exact HB.out)⟩⟩
                        case rest =>
                         clear HC44
                         try clear c1
                         try clear c2
                         try clear p2
                         try clear c3
                         try clear p3
                         try clear q3
                         try clear hx3
                         try clear c4
                         try clear c5
                         try clear c6
                         try clear p6
                         try clear c7
                         try clear c8
                         try clear c10
                         try clear c11
                         try clear c17
                         try clear c20
                         try clear c22
                         try clear c22b0
                         try clear c22b1
                         try clear c24
                         try clear c25
                         try clear c25b0
                         try clear c25b1
                         try clear c26
                         try clear c26b0
                         try clear c26b1
                         try clear c27
                         try clear c27b0
                         try clear c27b1
                         try clear c28
                         try clear c28b0
                         try clear c29
                         try clear c29b0
                         try clear c30
                         try clear c30b0
                         try clear c31
                         try clear c31b0
                         try clear c32
                         try clear c32b0
                         try clear c33
                         try clear c33b0
                         try clear c34
                         try clear c34b0
                         try clear c35
                         try clear c35b0
                         try clear p35
                         try clear q35
                         try clear hx35
                         try clear c36
                         try clear c36b0
                         try clear p36
                         try clear q36
                         try clear hx36
                         try clear c37
                         try clear c37b0
                         try clear c38
                         try clear c38b0
                         try clear c43
                         try clear c46
                         try clear c46b0
                         try clear c48
                         try clear c48b0
                         try clear c50
                         try clear c50b0
                         try clear c50b1
                         try clear c52
                         try clear c54
                         try clear c54b0
                         try clear c55
                         try clear c55b0
                         try clear c56
                         try clear c56b0
                         try clear c57
                         try clear c57b0
                         try clear c58
                         try clear c58b0
                         try clear c59
                         try clear c59b0
                         try clear c60
                         try clear c60b0
                         try clear c62
                         try clear c64
                         try clear p64
                         try clear hcz12_0
                         try clear hcz12_1
                         try clear hcz12_2
                         try clear hcz12_3
                         try clear hcz12_4
                         try clear hcz12_5
                         try clear hcz14_0
                         try clear hcz14_1
                         try clear hcz14_2
                         try clear hcz14_3
                         try clear hcz14_4
                         try clear hcz14_5
                         try clear hcz20_0
                         try clear hcz20_1
                         try clear hcz20_2
                         try clear hcz20_3
                         try clear hcz20_4
                         try clear hcz20_5
                         try clear hcz53_0
                         try clear hcz53_1
                         try clear hcz53_2
                         try clear hcz53_3
                         try clear hcz53_4
                         try clear hcz53_5
                         try clear hcz65_0
                         try clear hcz65_1
                         try clear hcz65_2
                         try clear hcz65_3
                         try clear hfz12_0
                         try clear hfz12_1
                         try clear hfz12_2
                         try clear hfz12_3
                         try clear hfz12_4
                         try clear hfz12_5
                         try clear hfz14_0
                         try clear hfz14_1
                         try clear hfz14_2
                         try clear hfz14_3
                         try clear hfz14_4
                         try clear hfz14_5
                         try clear hfz20_0
                         try clear hfz20_1
                         try clear hfz20_2
                         try clear hfz20_3
                         try clear hfz20_4
                         try clear hfz20_5
                         try clear hfz53_0
                         try clear hfz53_1
                         try clear hfz53_2
                         try clear hfz53_3
                         try clear hfz53_4
                         try clear hfz53_5
                         try clear hfz65_0
                         try clear hfz65_1
                         try clear hfz65_2
                         try clear hfz65_3
                         try clear hx350_0
                         try clear hx350_1
                         try clear hx350_2
                         try clear hx350_3
                         try clear hx353_0
                         try clear hx353_1
                         try clear hx353_2
                         try clear hx353_3
                         try clear hx356_0
                         try clear hx356_1
                         try clear hx356_2
                         try clear hx356_3
                         try clear hx360_0
                         try clear hx360_1
                         try clear hx360_2
                         try clear hx360_3
                         try clear hx364_0
                         try clear hx364_1
                         try clear hx364_2
                         try clear hx364_3
                         try clear hx367_0
                         try clear hx367_1
                         try clear hx367_2
                         try clear hx367_3
                         try clear p2
                         try clear p3
                         try clear p35
                         try clear p350
                         try clear p353
                         try clear p356
                         try clear p360
                         try clear p364
                         try clear p367
                         try clear p6
                         try clear q3
                         try clear q35
                         try clear q350
                         try clear q353
                         try clear q356
                         try clear q360
                         try clear q364
                         try clear q367
                         obtain ⟨kq, HA, HJ43, BK339, HB⟩ := hcut
                         cases kq with
                         | zero => exact absurd HA.out (by simp [testamurlaw13_DependsFirst.j13])
                         | succ kj43 =>
                          have H := HA.out
                          clear HA
                          simp only [testamurlaw13_DependsFirst.j13] at H
                          by_cases c69 : 0 ≤ t345
                          ·rw [if_pos c69] at H
                           have c69b0 := eq_true c69
                           have c69b1 : decide (0 ≤ t345) = true := decide_eq_true c69
                           clear c69
                           by_cases c70 : t345 ≤ (l0_5.length : Int)
                           ·rw [if_pos c70] at H
                            have c70b0 := eq_true c70
                            have c70b1 : decide (t345 ≤ (l0_5.length : Int)) = true := decide_eq_true c70
                            clear c70
                            obtain ⟨y369, hy369⟩ : ∃ y_ : List (S29), y_ = (l0_5.take (t345 : Int).toNat) := ⟨_, rfl⟩
                            replace H : (testamurlaw13_DependsFirst.l3 kj43 l1 t343 t344 y369 (y369.length : Int) 0) = some r := by first | (rw [hy369]; with_reducible exact H) | (have H2_ := (Option.bind_some _ _).symm.trans H; rw [hy369]; with_reducible exact H2_) | (have H2_ := (Option.bind_some _ _).symm.trans H; with_reducible exact H2_) | with_reducible exact H | (rw [hy369]; exact H) | exact H
                            have Ny369 := Aside0.mk hy369
                            clear hy369
                            have H' := Aside0.mk H
                            clear H
                            have hcz71_0 : wc.cell? ⟨gb339, 0, none⟩ = some (.string a0_0) := (blk_cell BK339.out 0).trans rfl
                            have hcz71_1 : wc.cell? ⟨gb339, 1, none⟩ = some (.string a0_1) := (blk_cell BK339.out 1).trans rfl
                            have hcz71_2 : wc.cell? ⟨gb339, 2, none⟩ = some (.int .i64 a0_2) := (blk_cell BK339.out 2).trans rfl
                            have hcz71_3 : wc.cell? ⟨gb339, 3, none⟩ = some (.int .i64 a0_3) := (blk_cell BK339.out 3).trans rfl
                            have hcz71_4 : wc.cell? ⟨gb339, 4, none⟩ = some (.slice A0_4 l0_4.length c0_4) := (blk_cell BK339.out 4).trans rfl
                            have hcz71_5 : wc.cell? ⟨gb339, 5, none⟩ = some (.slice (some ad356) l0_5.length c0_5) := (blk_cell BK339.out 5).trans rfl
                            have hfz71_0 := blk_frozen BK339.out 0
                            have hfz71_1 := blk_frozen BK339.out 1
                            have hfz71_2 := blk_frozen BK339.out 2
                            have hfz71_3 := blk_frozen BK339.out 3
                            have hfz71_4 := blk_frozen BK339.out 4
                            have hfz71_5 := blk_frozen BK339.out 5
                            have q72 : (t345 : Int) ≤ ((l0_5.length : Int) : Int) := of_decide_eq_true (by first | (with_reducible assumption) | assumption)
                            obtain ⟨i072, hi072, _, hsz72, _⟩ := info_parts info29
                            have hroom72 : l0_5.length ≤ c0_5 := HC0_5.out
                            have hC72 : Kd.C k29 _ (some ad356) l0_5.length l0_5 := HR0_5.out
                            have hcut72 := cut_to (P := Try.prog) 23 29 .i64 Try.underlying23 hi072 (some ad356) l0_5.length c0_5 t345 (of_decide_eq_true (by first | (with_reducible assumption) | assumption)) q72 hroom72
                            have hr72 := Kd.C_take (m := (t345 : Int).toNat) hC72 (by omega)
                            have hy72 : y369.length = (t345 : Int).toNat := (by rw [Ny369.out, List.length_take]; omega)
                            rw [← Ny369.out] at hr72
                            rw [← hy72] at hcut72
                            have HR372 := Aside0.mk hr72
                            have HC372 := Aside0.mk (show y369.length ≤ c0_5 from by omega)
                            clear hr72 hC72 hroom72 hi072 hsz72
                            have KY72 := Aside0.mk hy72
                            clear hy72
                            replace q72 := eq_true q72
                            go_wp2
                            go_loopg [140] kj43 (fun kq v140 w' => ∃ (x140_8 : Int), v140 = .int .i64 x140_8 ∧ Aside0 (testamurlaw13_DependsFirst.l3 kq l1 t343 t344 y369 (y369.length : Int) x140_8 = some r) ∧ Aside0 (kq ≤ kj43) ∧ Aside0 (w'.heap[gb339]? = some (.cells #[.string a0_0, .string a0_1, .int .i64 a0_2, .int .i64 a0_3, (.slice A0_4 l0_4.length c0_4), (.slice (some ad356) l0_5.length c0_5)] 25 (0, 0))) ∧ Aside0 (Below w.heap.size w w'))
                            case atStart => exact ⟨(0), (by first | rfl | (simp; done) | (simp [*]; done)), H', ⟨Nat.le_refl _⟩, ⟨by (with_reducible repeat (first | refine blk_drewN ?_ _ | refine blk_drew ?_ | refine blk_alloc ?_ _)); exact BK339.out⟩, ⟨by repeat (first | (with_reducible first | exact HB.out | apply below_alloc | apply pw_below_drewN | apply below_drew1 | refine below_set ?_ GE339.out) | exact HB.out)⟩⟩
                            case round =>
                             clear H'
                             try clear c1
                             try clear c2
                             try clear p2
                             try clear c3
                             try clear p3
                             try clear q3
                             try clear hx3
                             try clear c4
                             try clear c5
                             try clear c6
                             try clear p6
                             try clear c7
                             try clear q7
                             try clear c8
                             try clear c10
                             try clear c11
                             try clear c17
                             try clear c20
                             try clear c22
                             try clear c22b0
                             try clear c22b1
                             try clear c24
                             try clear c25
                             try clear c25b0
                             try clear c25b1
                             try clear c26
                             try clear c26b0
                             try clear c26b1
                             try clear c27
                             try clear c27b0
                             try clear c27b1
                             try clear c28
                             try clear c28b0
                             try clear c29
                             try clear c29b0
                             try clear c30
                             try clear c30b0
                             try clear c31
                             try clear c31b0
                             try clear c32
                             try clear c32b0
                             try clear c33
                             try clear c33b0
                             try clear c34
                             try clear c34b0
                             try clear c35
                             try clear c35b0
                             try clear p35
                             try clear q35
                             try clear hx35
                             try clear c36
                             try clear c36b0
                             try clear p36
                             try clear q36
                             try clear hx36
                             try clear c37
                             try clear c37b0
                             try clear c38
                             try clear c38b0
                             try clear c43
                             try clear c46
                             try clear c46b0
                             try clear c48
                             try clear c48b0
                             try clear c50
                             try clear c50b0
                             try clear c50b1
                             try clear c52
                             try clear c54
                             try clear c54b0
                             try clear c55
                             try clear c55b0
                             try clear c56
                             try clear c56b0
                             try clear c57
                             try clear c57b0
                             try clear c58
                             try clear c58b0
                             try clear c59
                             try clear c59b0
                             try clear c60
                             try clear c60b0
                             try clear c62
                             try clear c64
                             try clear p64
                             try clear c69
                             try clear c69b0
                             try clear c69b1
                             try clear c70
                             try clear c70b0
                             try clear c70b1
                             try clear q72
                             try clear hcz12_0
                             try clear hcz12_1
                             try clear hcz12_2
                             try clear hcz12_3
                             try clear hcz12_4
                             try clear hcz12_5
                             try clear hcz14_0
                             try clear hcz14_1
                             try clear hcz14_2
                             try clear hcz14_3
                             try clear hcz14_4
                             try clear hcz14_5
                             try clear hcz20_0
                             try clear hcz20_1
                             try clear hcz20_2
                             try clear hcz20_3
                             try clear hcz20_4
                             try clear hcz20_5
                             try clear hcz53_0
                             try clear hcz53_1
                             try clear hcz53_2
                             try clear hcz53_3
                             try clear hcz53_4
                             try clear hcz53_5
                             try clear hcz65_0
                             try clear hcz65_1
                             try clear hcz65_2
                             try clear hcz65_3
                             try clear hcz71_0
                             try clear hcz71_1
                             try clear hcz71_2
                             try clear hcz71_3
                             try clear hcz71_4
                             try clear hcz71_5
                             try clear hfz12_0
                             try clear hfz12_1
                             try clear hfz12_2
                             try clear hfz12_3
                             try clear hfz12_4
                             try clear hfz12_5
                             try clear hfz14_0
                             try clear hfz14_1
                             try clear hfz14_2
                             try clear hfz14_3
                             try clear hfz14_4
                             try clear hfz14_5
                             try clear hfz20_0
                             try clear hfz20_1
                             try clear hfz20_2
                             try clear hfz20_3
                             try clear hfz20_4
                             try clear hfz20_5
                             try clear hfz53_0
                             try clear hfz53_1
                             try clear hfz53_2
                             try clear hfz53_3
                             try clear hfz53_4
                             try clear hfz53_5
                             try clear hfz65_0
                             try clear hfz65_1
                             try clear hfz65_2
                             try clear hfz65_3
                             try clear hfz71_0
                             try clear hfz71_1
                             try clear hfz71_2
                             try clear hfz71_3
                             try clear hfz71_4
                             try clear hfz71_5
                             try clear hx350_0
                             try clear hx350_1
                             try clear hx350_2
                             try clear hx350_3
                             try clear hx353_0
                             try clear hx353_1
                             try clear hx353_2
                             try clear hx353_3
                             try clear hx356_0
                             try clear hx356_1
                             try clear hx356_2
                             try clear hx356_3
                             try clear hx360_0
                             try clear hx360_1
                             try clear hx360_2
                             try clear hx360_3
                             try clear hx364_0
                             try clear hx364_1
                             try clear hx364_2
                             try clear hx364_3
                             try clear hx367_0
                             try clear hx367_1
                             try clear hx367_2
                             try clear hx367_3
                             try clear p2
                             try clear p3
                             try clear p35
                             try clear p350
                             try clear p353
                             try clear p356
                             try clear p36
                             try clear p360
                             try clear p364
                             try clear p367
                             try clear p6
                             try clear p64
                             try clear q3
                             try clear q35
                             try clear q350
                             try clear q353
                             try clear q356
                             try clear q36
                             try clear q360
                             try clear q364
                             try clear q367
                             try clear q72
                             obtain ⟨x140_8, rfl, HA, HK8, BK339, HB⟩ := hrel
                             cases gk with
                             | zero => exact absurd HA.out (by simp [testamurlaw13_DependsFirst.l3])
                             | succ k8 =>
                              have H := HA.out
                              clear HA
                              simp only [testamurlaw13_DependsFirst.l3] at H
                              by_cases c73 : x140_8 < (y369.length : Int)
                              ·rw [if_pos c73] at H
                               have c73b0 : decide (x140_8 < (y369.length : Int)) = true := decide_eq_true c73
                               clear c73
                               by_cases c74 : 0 ≤ x140_8
                               ·rw [if_pos c74] at H
                                have c74b0 : decide (0 ≤ x140_8) = true := decide_eq_true c74
                                clear c74
                                by_cases c75 : x140_8 < (y369.length : Int)
                                ·rw [if_pos c75] at H
                                 have c75b0 : decide (x140_8 < (y369.length : Int)) = true := decide_eq_true c75
                                 clear c75
                                 by_cases c76 : 0 ≤ t343
                                 ·rw [if_pos c76] at H
                                  have c76b0 : decide (0 ≤ t343) = true := decide_eq_true c76
                                  clear c76
                                  by_cases c77 : t343 < (l1.length : Int)
                                  ·rw [if_pos c77] at H
                                   have c77b0 : decide (t343 < (l1.length : Int)) = true := decide_eq_true c77
                                   clear c77
                                   by_cases c78 : 0 ≤ t344
                                   ·rw [if_pos c78] at H
                                    have c78b0 : decide (0 ≤ t344) = true := decide_eq_true c78
                                    clear c78
                                    by_cases c79 : t344 < (l1.length : Int)
                                    ·rw [if_pos c79] at H
                                     have c79b0 : decide (t344 < (l1.length : Int)) = true := decide_eq_true c79
                                     clear c79
                                     replace H := Option.bind_eq_some_iff.mp H
                                     obtain ⟨t383, A800, H⟩ := H
                                     replace H : (if t383 = true then (none) else (testamurlaw13_DependsFirst.l3 k8 l1 t343 t344 y369 (y369.length : Int) (wrap64 (x140_8 + 1)))) = some r := H
                                     have A80 := Aside0.mk A800
                                     clear A800
                                     by_cases c81 : t383 = true
                                     ·subst c81
                                      have H1 : (none) = some r := by rw [if_pos rfl] at H; exact H
                                      clear H
                                      have H := H1
                                      clear H1
                                      exact absurd H (by simp)
                                     ·replace c81 := Bool.eq_false_iff.mpr c81
                                      subst c81
                                      have H1 : (testamurlaw13_DependsFirst.l3 k8 l1 t343 t344 y369 (y369.length : Int) (wrap64 (x140_8 + 1))) = some r := by rw [if_neg (show ¬ (false = true) by decide)] at H; exact H
                                      clear H
                                      have H := H1
                                      clear H1
                                      have H' := Aside0.mk H
                                      clear H
                                      have p375 : 0 ≤ (x140_8 : Int) := of_decide_eq_true (by first | (with_reducible assumption) | assumption)
                                      have q375 : x140_8 < (y369.length : Int) := of_decide_eq_true (by first | (with_reducible assumption) | assumption)
                                      obtain ⟨ad375, A375_0, c375_0, A375_2, c375_2, e375, hx375_0, hx375_1, hx375_2, hx375_3, hl375_0, hi375_0, hl375_2, hi375_2⟩ := at_T29 HR372.out x140_8 p375 q375
                                      obtain rfl : ad356 = ad375 := (by injection e375)
                                      replace hx375_0 := (HB.out.cell (World.block_lt_of_cell? w _ hx375_0)).trans hx375_0
                                      replace hx375_1 := (HB.out.cell (World.block_lt_of_cell? w _ hx375_1)).trans hx375_1
                                      replace hx375_2 := (HB.out.cell (World.block_lt_of_cell? w _ hx375_2)).trans hx375_2
                                      replace hx375_3 := (HB.out.cell (World.block_lt_of_cell? w _ hx375_3)).trans hx375_3
                                      have HR375_0 := Aside0.mk hi375_0
                                      have HC375_0 := Aside0.mk hl375_0
                                      clear hi375_0 hl375_0
                                      have HR375_2 := Aside0.mk hi375_2
                                      have HC375_2 := Aside0.mk hl375_2
                                      clear hi375_2 hl375_2
                                      replace p375 := eq_true p375
                                      replace q375 := eq_true q375
                                      go_wp2_with ((with_reducible refine gate_dst (N := 15) rfl ?_); (try (refine gate_guard (by rfl) ?_; dsimp only)); refine Aside0.out (p := _) ?_)
                                      refine ⟨?_⟩
                                      refine box_event ?hg (N := 15) ?hd (cs := #[.slice none 0 0, .string (⟨#[]⟩ : ByteArray), .slice none 0 0, .int .i64 0]) (t := 29) ?hr ?_; (case hd => rfl); (case hg => rfl); (case hr => first | (go_simp; done) | (go_simp; rfl))
                                      intro gb376 hg w82 hbox hb
                                      have n0_ := Aside0.mk (blk_below (g := gb339) (o := .cells #[.string a0_0, .string a0_1, .int .i64 a0_2, .int .i64 a0_3, .slice A0_4 l0_4.length c0_4, .slice (some ad356) l0_5.length c0_5] 25 (0, 0)) (by (with_reducible repeat (first | refine blk_drewN ?_ _ | refine blk_drew ?_ | refine blk_alloc ?_ _)); exact BK339.out) hb)
                                      have n1_ := Aside0.mk (below_step (by repeat (first | (with_reducible first | exact HB.out | apply below_alloc | apply pw_below_drewN | apply below_drew1 | refine below_set ?_ GE339.out) | exact HB.out)) hb)
                                      have n2_ := Aside0.mk (hbox)
                                      have n3_ := Aside0.mk ((by rw [hg]; exact (below_size (by repeat (first | (with_reducible first | exact HB.out | apply below_alloc | apply pw_below_drewN | apply below_drew1 | refine below_set ?_ GE339.out) | exact HB.out))) : w.heap.size ≤ gb376))
                                      have n4_ := Aside0.mk ((by rw [hg]; exact (below_size (by repeat (first | (with_reducible first | exact HB.out | apply below_alloc | apply pw_below_drewN | apply below_drew1 | refine below_set ?_ GE339.out) | exact HB.out))) : w.heap.size ≤ gb376))
                                      have n5_ := Aside0.mk ((by rw [hg]; exact Nat.ne_of_lt (blk_lt (g := gb339) (o := .cells #[.string a0_0, .string a0_1, .int .i64 a0_2, .int .i64 a0_3, .slice A0_4 l0_4.length c0_4, .slice (some ad356) l0_5.length c0_5] 25 (0, 0)) (by (with_reducible repeat (first | refine blk_drewN ?_ _ | refine blk_drew ?_ | refine blk_alloc ?_ _)); exact BK339.out)) : gb339 ≠ gb376))
                                      have n6_ := Aside0.mk ((by rw [hg]; exact Nat.ne_of_gt (blk_lt (g := gb339) (o := .cells #[.string a0_0, .string a0_1, .int .i64 a0_2, .int .i64 a0_3, .slice A0_4 l0_4.length c0_4, .slice (some ad356) l0_5.length c0_5] 25 (0, 0)) (by (with_reducible repeat (first | refine blk_drewN ?_ _ | refine blk_drew ?_ | refine blk_alloc ?_ _)); exact BK339.out)) : gb376 ≠ gb339))
                                      clear BK339
                                      clear HB
                                      have BK339 := n0_
                                      have HB := n1_
                                      have BK376 := n2_
                                      have GW376 := n3_
                                      have GE376 := n4_
                                      have NB339_376 := n5_
                                      have NB376_339 := n6_
                                      clear n0_ n1_ n2_ n3_ n4_ n5_ n6_
                                      clear hb hbox hg
                                      have hnb83 := NB376_339.out
                                      have hnc83 := NB339_376.out
                                      have hcz84_0 : w82.cell? ⟨gb376, 0, none⟩ = some (.slice none 0 0) := (blk_cell BK376.out 0).trans rfl
                                      have hcz84_1 : w82.cell? ⟨gb376, 1, none⟩ = some (.string (⟨#[]⟩ : ByteArray)) := (blk_cell BK376.out 1).trans rfl
                                      have hcz84_2 : w82.cell? ⟨gb376, 2, none⟩ = some (.slice none 0 0) := (blk_cell BK376.out 2).trans rfl
                                      have hcz84_3 : w82.cell? ⟨gb376, 3, none⟩ = some (.int .i64 0) := (blk_cell BK376.out 3).trans rfl
                                      have hfz84_0 := blk_frozen BK376.out 0
                                      have hfz84_1 := blk_frozen BK376.out 1
                                      have hfz84_2 := blk_frozen BK376.out 2
                                      have hfz84_3 := blk_frozen BK376.out 3
                                      go_wp2
                                      have n0_ : Aside0 (((((w82.setCell ⟨gb376, 0, none⟩ (.slice A375_0 ((rd_T29 y369 x140_8).f0).length c375_0)).setCell ⟨gb376, 1, none⟩ (.string ((rd_T29 y369 x140_8).f1))).setCell ⟨gb376, 2, none⟩ (.slice A375_2 ((rd_T29 y369 x140_8).f2).length c375_2)).setCell ⟨gb376, 3, none⟩ (.int .i64 ((rd_T29 y369 x140_8).f3))).heap[gb339]? = some (.cells #[.string a0_0, .string a0_1, .int .i64 a0_2, .int .i64 a0_3, .slice A0_4 l0_4.length c0_4, .slice (some ad356) l0_5.length c0_5] 25 (0, 0))) := ⟨by (with_reducible repeat (first | refine blk_drewN ?_ _ | refine blk_drew ?_ | refine blk_alloc ?_ _)); refine blk_far ?_ NB339_376.out _; (with_reducible repeat (first | refine blk_drewN ?_ _ | refine blk_drew ?_ | refine blk_alloc ?_ _)); refine blk_far ?_ NB339_376.out _; (with_reducible repeat (first | refine blk_drewN ?_ _ | refine blk_drew ?_ | refine blk_alloc ?_ _)); refine blk_far ?_ NB339_376.out _; (with_reducible repeat (first | refine blk_drewN ?_ _ | refine blk_drew ?_ | refine blk_alloc ?_ _)); refine blk_far ?_ NB339_376.out _; (with_reducible repeat (first | refine blk_drewN ?_ _ | refine blk_drew ?_ | refine blk_alloc ?_ _)); exact BK339.out⟩
                                      have n1_ : Aside0 (((((w82.setCell ⟨gb376, 0, none⟩ (.slice A375_0 ((rd_T29 y369 x140_8).f0).length c375_0)).setCell ⟨gb376, 1, none⟩ (.string ((rd_T29 y369 x140_8).f1))).setCell ⟨gb376, 2, none⟩ (.slice A375_2 ((rd_T29 y369 x140_8).f2).length c375_2)).setCell ⟨gb376, 3, none⟩ (.int .i64 ((rd_T29 y369 x140_8).f3))).heap[gb376]? = some (.cells #[.slice A375_0 ((rd_T29 y369 x140_8).f0).length c375_0, .string ((rd_T29 y369 x140_8).f1), .slice A375_2 ((rd_T29 y369 x140_8).f2).length c375_2, .int .i64 ((rd_T29 y369 x140_8).f3)] 29 (0, 0))) := ⟨by (with_reducible repeat (first | refine blk_drewN ?_ _ | refine blk_drew ?_ | refine blk_alloc ?_ _)); refine blk_put (cs := #[.slice A375_0 ((rd_T29 y369 x140_8).f0).length c375_0, .string ((rd_T29 y369 x140_8).f1), .slice A375_2 ((rd_T29 y369 x140_8).f2).length c375_2, .int .i64 0]) ?_ 3 _ rfl; (with_reducible repeat (first | refine blk_drewN ?_ _ | refine blk_drew ?_ | refine blk_alloc ?_ _)); refine blk_put (cs := #[.slice A375_0 ((rd_T29 y369 x140_8).f0).length c375_0, .string ((rd_T29 y369 x140_8).f1), .slice none 0 0, .int .i64 0]) ?_ 2 _ rfl; (with_reducible repeat (first | refine blk_drewN ?_ _ | refine blk_drew ?_ | refine blk_alloc ?_ _)); refine blk_put (cs := #[.slice A375_0 ((rd_T29 y369 x140_8).f0).length c375_0, .string (⟨#[]⟩ : ByteArray), .slice none 0 0, .int .i64 0]) ?_ 1 _ rfl; (with_reducible repeat (first | refine blk_drewN ?_ _ | refine blk_drew ?_ | refine blk_alloc ?_ _)); refine blk_put (cs := #[.slice none 0 0, .string (⟨#[]⟩ : ByteArray), .slice none 0 0, .int .i64 0]) ?_ 0 _ rfl; (with_reducible repeat (first | refine blk_drewN ?_ _ | refine blk_drew ?_ | refine blk_alloc ?_ _)); exact BK376.out⟩
                                      have n2_ : Aside0 (Below w.heap.size w ((((w82.setCell ⟨gb376, 0, none⟩ (.slice A375_0 ((rd_T29 y369 x140_8).f0).length c375_0)).setCell ⟨gb376, 1, none⟩ (.string ((rd_T29 y369 x140_8).f1))).setCell ⟨gb376, 2, none⟩ (.slice A375_2 ((rd_T29 y369 x140_8).f2).length c375_2)).setCell ⟨gb376, 3, none⟩ (.int .i64 ((rd_T29 y369 x140_8).f3)))) := ⟨by repeat (first | (with_reducible first | exact HB.out | apply below_alloc | apply pw_below_drewN | apply below_drew1 | refine below_set ?_ GE339.out | refine below_set ?_ GE376.out) | exact HB.out)⟩
                                      (try clear BK339)
                                      (try clear BK376)
                                      (try clear HB)
                                      generalize ((((w82.setCell ⟨gb376, 0, none⟩ (.slice A375_0 ((rd_T29 y369 x140_8).f0).length c375_0)).setCell ⟨gb376, 1, none⟩ (.string ((rd_T29 y369 x140_8).f1))).setCell ⟨gb376, 2, none⟩ (.slice A375_2 ((rd_T29 y369 x140_8).f2).length c375_2)).setCell ⟨gb376, 3, none⟩ (.int .i64 ((rd_T29 y369 x140_8).f3))) = w85 at n0_ n1_ n2_ ⊢
                                      have BK339 := n0_
                                      have BK376 := n1_
                                      have HB := n2_
                                      clear n0_ n1_ n2_
                                      have n0_ := Aside0.mk (blk_drew BK339.out)
                                      have n1_ := Aside0.mk (blk_drew BK376.out)
                                      have n2_ := Aside0.mk (below_drew1 HB.out)
                                      clear BK339
                                      clear BK376
                                      clear HB
                                      have BK339 := n0_
                                      have BK376 := n1_
                                      have HB := n2_
                                      clear n0_ n1_ n2_
                                      have p379 : 0 ≤ (t343 : Int) := of_decide_eq_true (by first | (with_reducible assumption) | assumption)
                                      have q379 : t343 < (l1.length : Int) := of_decide_eq_true (by first | (with_reducible assumption) | assumption)
                                      obtain ⟨ad379, A379_3, c379_3, e379, hx379_0, hx379_1, hx379_2, hx379_3, hl379_3, hi379_3⟩ := at_T49 HR1.out t343 p379 q379
                                      have hw379_3 := hx379_3
                                      have hw379_2 := hx379_2
                                      have hw379_1 := hx379_1
                                      have hw379_0 := hx379_0
                                      obtain rfl : ad350 = ad379 := (by injection e379)
                                      replace hx379_0 := (HB.out.cell (World.block_lt_of_cell? w _ hx379_0)).trans hx379_0
                                      replace hx379_1 := (HB.out.cell (World.block_lt_of_cell? w _ hx379_1)).trans hx379_1
                                      replace hx379_2 := (HB.out.cell (World.block_lt_of_cell? w _ hx379_2)).trans hx379_2
                                      replace hx379_3 := (HB.out.cell (World.block_lt_of_cell? w _ hx379_3)).trans hx379_3
                                      have HR379_3 := Aside0.mk hi379_3
                                      have HC379_3 := Aside0.mk hl379_3
                                      clear hi379_3 hl379_3
                                      replace p379 := eq_true p379
                                      replace q379 := eq_true q379
                                      have p382 : 0 ≤ (t344 : Int) := of_decide_eq_true (by first | (with_reducible assumption) | assumption)
                                      have q382 : t344 < (l1.length : Int) := of_decide_eq_true (by first | (with_reducible assumption) | assumption)
                                      obtain ⟨ad382, A382_3, c382_3, e382, hx382_0, hx382_1, hx382_2, hx382_3, hl382_3, hi382_3⟩ := at_T49 HR1.out t344 p382 q382
                                      have hw382_3 := hx382_3
                                      have hw382_2 := hx382_2
                                      have hw382_1 := hx382_1
                                      have hw382_0 := hx382_0
                                      obtain rfl : ad350 = ad382 := (by injection e382)
                                      replace hx382_0 := (HB.out.cell (World.block_lt_of_cell? w _ hx382_0)).trans hx382_0
                                      replace hx382_1 := (HB.out.cell (World.block_lt_of_cell? w _ hx382_1)).trans hx382_1
                                      replace hx382_2 := (HB.out.cell (World.block_lt_of_cell? w _ hx382_2)).trans hx382_2
                                      replace hx382_3 := (HB.out.cell (World.block_lt_of_cell? w _ hx382_3)).trans hx382_3
                                      have HR382_3 := Aside0.mk hi382_3
                                      have HC382_3 := Aside0.mk hl382_3
                                      clear hi382_3 hl382_3
                                      replace p382 := eq_true p382
                                      replace q382 := eq_true q382
                                      refine start_ (n := 10) (S := fun w' => w'.cell? ⟨gb376, 0, none⟩ = some (.slice A375_0 ((rd_T29 y369 x140_8).f0).length c375_0) ∧ w'.cell? ⟨gb376, 1, none⟩ = some (.string ((rd_T29 y369 x140_8).f1)) ∧ w'.cell? ⟨gb376, 2, none⟩ = some (.slice A375_2 ((rd_T29 y369 x140_8).f2).length c375_2) ∧ w'.cell? ⟨gb376, 3, none⟩ = some (.int .i64 ((rd_T29 y369 x140_8).f3)) ∧ w'.cell? (ad350.add ((t343).toNat * 4)) = some (.int .i64 ((rd_T49 l1 t343).f0)) ∧ w'.cell? ⟨(ad350.add ((t343).toNat * 4)).block, (ad350.add ((t343).toNat * 4)).off + 1, none⟩ = some (.int .i64 ((rd_T49 l1 t343).f1)) ∧ w'.cell? ⟨(ad350.add ((t343).toNat * 4)).block, (ad350.add ((t343).toNat * 4)).off + 2, none⟩ = some (.int .i64 ((rd_T49 l1 t343).f2)) ∧ w'.cell? ⟨(ad350.add ((t343).toNat * 4)).block, (ad350.add ((t343).toNat * 4)).off + 3, none⟩ = some (.slice A379_3 ((rd_T49 l1 t343).f3).length c379_3) ∧ w'.cell? (ad350.add ((t344).toNat * 4)) = some (.int .i64 ((rd_T49 l1 t344).f0)) ∧ w'.cell? ⟨(ad350.add ((t344).toNat * 4)).block, (ad350.add ((t344).toNat * 4)).off + 1, none⟩ = some (.int .i64 ((rd_T49 l1 t344).f1)) ∧ w'.cell? ⟨(ad350.add ((t344).toNat * 4)).block, (ad350.add ((t344).toNat * 4)).off + 2, none⟩ = some (.int .i64 ((rd_T49 l1 t344).f2)) ∧ w'.cell? ⟨(ad350.add ((t344).toNat * 4)).block, (ad350.add ((t344).toNat * 4)).off + 3, none⟩ = some (.slice A382_3 ((rd_T49 l1 t344).f3).length c382_3)) (ds := []) #[false, false, false, false, false, false, false, false, false, false] (by kernel_rfl) rfl rfl ⟨(blk_cell BK376.out 0).trans rfl, (blk_cell BK376.out 1).trans rfl, (blk_cell BK376.out 2).trans rfl, (blk_cell BK376.out 3).trans rfl, ((HB.out.cell (World.block_lt_of_cell? w _ hw379_0)).trans hw379_0), ((HB.out.cell (World.block_lt_of_cell? w _ hw379_1)).trans hw379_1), ((HB.out.cell (World.block_lt_of_cell? w _ hw379_2)).trans hw379_2), ((HB.out.cell (World.block_lt_of_cell? w _ hw379_3)).trans hw379_3), ((HB.out.cell (World.block_lt_of_cell? w _ hw382_0)).trans hw382_0), ((HB.out.cell (World.block_lt_of_cell? w _ hw382_1)).trans hw382_1), ((HB.out.cell (World.block_lt_of_cell? w _ hw382_2)).trans hw382_2), ((HB.out.cell (World.block_lt_of_cell? w _ hw382_3)).trans hw382_3)⟩ (fun hHeld => ?_); refine with_tabW testamurlaw13_DependsFirst.tab26 testamurlaw13_DependsFirst.bits26 (fun HT_ HW_ => ?_)
                                      generalize w85.drew = w86 at BK339 BK376 HB HR379_3 HR382_3 hx379_0 hx379_1 hx379_2 hx379_3 hx382_0 hx382_1 hx382_2 hx382_3 hHeld ⊢
                                      refine pure_ (i := 0) (N := some 144) (v := ?_) (a' := ?_) #[true, false, false, false, false, false, false, false, false, false] rfl rfl (any_of HT_.out (by kernel_rfl)) (fun _ _ _ h => h) (Or.inl ⟨by rfl, ?_⟩) ?_ ?_
                                      rotate_left
                                      ·intro w'
                                       go_simp
                                       with_reducible rfl
                                      rotate_left
                                      ·simp only [Act.put, List.setIfInBounds_toArray, List.set_cons_zero, List.set_cons_succ, i64_w, i32_w]
                                       rfl
                                      refine pure_ (i := 1) (N := some 145) (v := ?_) (a' := ?_) #[true, true, false, false, false, false, false, false, false, false] rfl rfl (any_of HT_.out (by kernel_rfl)) (fun _ _ _ h => h) (Or.inl ⟨by rfl, ?_⟩) ?_ ?_
                                      rotate_left
                                      ·intro w'
                                       go_simp
                                       with_reducible rfl
                                      rotate_left
                                      ·simp only [Act.put, List.setIfInBounds_toArray, List.set_cons_zero, List.set_cons_succ, i64_w, i32_w]
                                       rfl
                                      refine pure_ (i := 2) (N := some 146) (v := ?_) (a' := ?_) #[true, true, true, false, false, false, false, false, false, false] rfl rfl (any_of HT_.out (by kernel_rfl)) (fun _ _ _ h => h) (Or.inl ⟨by rfl, ?_⟩) ?_ ?_
                                      rotate_left
                                      ·intro w'
                                       go_simp
                                       with_reducible rfl
                                      rotate_left
                                      ·simp only [Act.put, List.setIfInBounds_toArray, List.set_cons_zero, List.set_cons_succ, i64_w, i32_w]
                                       rfl
                                      refine pure_ (i := 4) (N := some 148) (v := ?_) (a' := ?_) #[true, true, true, false, true, false, false, false, false, false] rfl rfl (any_of HT_.out (by kernel_rfl)) (fun _ _ _ h => h) (Or.inl ⟨by rfl, ?_⟩) ?_ ?_
                                      rotate_left
                                      ·intro w'
                                       go_simp
                                       with_reducible rfl
                                      rotate_left
                                      ·simp only [Act.put, List.setIfInBounds_toArray, List.set_cons_zero, List.set_cons_succ, i64_w, i32_w]
                                       rfl
                                      refine pure_ (i := 5) (N := some 149) (v := ?_) (a' := ?_) #[true, true, true, false, true, true, false, false, false, false] rfl rfl (any_of HT_.out (by kernel_rfl)) (fun _ _ _ h => h) (Or.inl ⟨by rfl, ?_⟩) ?_ ?_
                                      rotate_left
                                      ·intro w'
                                       go_simp
                                       with_reducible rfl
                                      rotate_left
                                      ·simp only [Act.put, List.setIfInBounds_toArray, List.set_cons_zero, List.set_cons_succ, i64_w, i32_w]
                                       rfl
                                      refine pure_ (i := 6) (N := some 150) (v := ?_) (a' := ?_) #[true, true, true, false, true, true, true, false, false, false] rfl rfl (any_of HT_.out (by kernel_rfl)) (fun _ _ _ h => h) (Or.inl ⟨by rfl, ?_⟩) ?_ ?_
                                      rotate_left
                                      ·intro w'
                                       go_simp
                                       with_reducible rfl
                                      rotate_left
                                      ·simp only [Act.put, List.setIfInBounds_toArray, List.set_cons_zero, List.set_cons_succ, i64_w, i32_w]
                                       rfl
                                      refine take_ (i := 3) (N := some 147) (v := ?_) (a' := ?_) #[true, true, true, true, true, true, true, false, false, false] rfl rfl (take_ofW HT_.out HW_.out (by kernel_rfl)) (fun _ _ _ h => h) (Or.inl ⟨by rfl, ?_⟩) hHeld ?_ ?_
                                      rotate_left
                                      ·rintro w' ⟨s0, s1, s2, s3, s4, s5, s6, s7, s8, s9, s10, s11⟩
                                       go_simp
                                       with_reducible rfl
                                      rotate_left
                                      ·simp only [Act.put, List.setIfInBounds_toArray, List.set_cons_zero, List.set_cons_succ, i64_w, i32_w]
                                       rfl
                                      refine take_ (i := 7) (N := some 151) (v := ?_) (a' := ?_) #[true, true, true, true, true, true, true, true, false, false] rfl rfl (take_ofW HT_.out HW_.out (by kernel_rfl)) (fun _ _ _ h => h) (Or.inl ⟨by rfl, ?_⟩) hHeld ?_ ?_
                                      rotate_left
                                      ·rintro w' ⟨s0, s1, s2, s3, s4, s5, s6, s7, s8, s9, s10, s11⟩
                                       go_simp
                                       with_reducible rfl
                                      rotate_left
                                      ·simp only [Act.put, List.setIfInBounds_toArray, List.set_cons_zero, List.set_cons_succ, i64_w, i32_w]
                                       rfl
                                      refine take_ (i := 8) (N := some 152) (v := ?_) (a' := ?_) #[true, true, true, true, true, true, true, true, true, false] rfl rfl (take_ofW HT_.out HW_.out (by kernel_rfl)) (fun _ _ _ h => h) (Or.inl ⟨by rfl, ?_⟩) hHeld ?_ ?_
                                      rotate_left
                                      ·rintro w' ⟨s0, s1, s2, s3, s4, s5, s6, s7, s8, s9, s10, s11⟩
                                       go_simp
                                       with_reducible rfl
                                      rotate_left
                                      ·simp only [Act.put, List.setIfInBounds_toArray, List.set_cons_zero, List.set_cons_succ, i64_w, i32_w]
                                       rfl
                                      refine one_ (i := 9) (N := some 153) #[true, true, true, true, true, true, true, true, true, true] rfl rfl (one_of HT_.out (by kernel_rfl)) (by decide) (fun K hK => ?_)
                                      refine goes_ Try.func24 (by kernel_rfl) rfl #[.agg #[.int .i64 ((rd_T49 l1 t343).f0), .int .i64 ((rd_T49 l1 t343).f1), .int .i64 ((rd_T49 l1 t343).f2), .slice A379_3 ((rd_T49 l1 t343).f3).length c379_3], .agg #[.int .i64 ((rd_T49 l1 t344).f0), .int .i64 ((rd_T49 l1 t344).f1), .int .i64 ((rd_T49 l1 t344).f2), .slice A382_3 ((rd_T49 l1 t344).f3).length c382_3], .agg #[.slice A375_0 ((rd_T29 y369 x140_8).f0).length c375_0, .string ((rd_T29 y369 x140_8).f1), .slice A375_2 ((rd_T29 y369 x140_8).f2).length c375_2, .int .i64 ((rd_T29 y369 x140_8).f3)]] (by rfl) rfl rfl (by (try simp only [List.map_toArray, List.map_cons, List.map_nil]); first | done | rfl | (simp only [List.length_drop, List.length_take]; rfl)) ?_
                                      with_reducible refine (testamurlaw13_breaks.calls ((rd_T49 l1 t343).f0) ((rd_T49 l1 t343).f1) ((rd_T49 l1 t343).f2) _ _ ((rd_T49 l1 t343).f3) ((rd_T49 l1 t344).f0) ((rd_T49 l1 t344).f1) ((rd_T49 l1 t344).f2) _ _ ((rd_T49 l1 t344).f3) _ _ ((rd_T29 y369 x140_8).f0) ((rd_T29 y369 x140_8).f1) _ _ ((rd_T29 y369 x140_8).f2) ((rd_T29 y369 x140_8).f3) false _ ?side1 ?side2 ?side3 ?side4 ?side5 ?side6 ?side7 ?side8 A80.out).mono ?_
                                      (case side1 => repeat (first | exact (Kd.C_below HR379_3.out HB.out) | (with_reducible refine Kd.C_alloc ?_ _) | (with_reducible refine Kd.C_drewN ?_ _) | (with_reducible refine Kd.C_drew ?_)))
                                      (case side2 => exact HC379_3.out)
                                      (case side3 => repeat (first | exact (Kd.C_below HR382_3.out HB.out) | (with_reducible refine Kd.C_alloc ?_ _) | (with_reducible refine Kd.C_drewN ?_ _) | (with_reducible refine Kd.C_drew ?_)))
                                      (case side4 => exact HC382_3.out)
                                      (case side5 => repeat (first | exact (Kd.C_below HR375_0.out HB.out) | (with_reducible refine Kd.C_alloc ?_ _) | (with_reducible refine Kd.C_drewN ?_ _) | (with_reducible refine Kd.C_drew ?_)))
                                      (case side6 => exact HC375_0.out)
                                      (case side7 => repeat (first | exact (Kd.C_below HR375_2.out HB.out) | (with_reducible refine Kd.C_alloc ?_ _) | (with_reducible refine Kd.C_drewN ?_ _) | (with_reducible refine Kd.C_drew ?_)))
                                      (case side8 => exact HC375_2.out)
                                      rintro e w87 ⟨rfl, hb⟩
                                      refine ⟨_, rfl, ?_⟩
                                      have n0_ := Aside0.mk (blk_below (g := gb339) (o := .cells #[.string a0_0, .string a0_1, .int .i64 a0_2, .int .i64 a0_3, .slice A0_4 l0_4.length c0_4, .slice (some ad356) l0_5.length c0_5] 25 (0, 0)) (by (with_reducible repeat (first | refine blk_drewN ?_ _ | refine blk_drew ?_ | refine blk_alloc ?_ _)); exact BK339.out) hb)
                                      have n1_ := Aside0.mk (blk_below (g := gb376) (o := .cells #[.slice A375_0 ((rd_T29 y369 x140_8).f0).length c375_0, .string ((rd_T29 y369 x140_8).f1), .slice A375_2 ((rd_T29 y369 x140_8).f2).length c375_2, .int .i64 ((rd_T29 y369 x140_8).f3)] 29 (0, 0)) (by (with_reducible repeat (first | refine blk_drewN ?_ _ | refine blk_drew ?_ | refine blk_alloc ?_ _)); exact BK376.out) hb)
                                      have n2_ := Aside0.mk (below_step (by repeat (first | (with_reducible first | exact HB.out | apply below_alloc | apply pw_below_drewN | apply below_drew1 | refine below_set ?_ GE339.out | refine below_set ?_ GE376.out) | exact HB.out)) hb)
                                      clear BK339
                                      clear BK376
                                      clear HB
                                      have BK339 := n0_
                                      have BK376 := n1_
                                      have HB := n2_
                                      clear n0_ n1_ n2_
                                      (try clear hb)
                                      (try clear hb2)
                                      (try clear hk)
                                      (try clear hi)
                                      refine hK.out _ _ ⟨(blk_cell BK376.out 0).trans rfl, (blk_cell BK376.out 1).trans rfl, (blk_cell BK376.out 2).trans rfl, (blk_cell BK376.out 3).trans rfl, ((HB.out.cell (World.block_lt_of_cell? w _ hw379_0)).trans hw379_0), ((HB.out.cell (World.block_lt_of_cell? w _ hw379_1)).trans hw379_1), ((HB.out.cell (World.block_lt_of_cell? w _ hw379_2)).trans hw379_2), ((HB.out.cell (World.block_lt_of_cell? w _ hw379_3)).trans hw379_3), ((HB.out.cell (World.block_lt_of_cell? w _ hw382_0)).trans hw382_0), ((HB.out.cell (World.block_lt_of_cell? w _ hw382_1)).trans hw382_1), ((HB.out.cell (World.block_lt_of_cell? w _ hw382_2)).trans hw382_2), ((HB.out.cell (World.block_lt_of_cell? w _ hw382_3)).trans hw382_3)⟩ (fun hHeld => ?_)
                                      clear hK K
                                      refine norm_ (a' := ?_) ?_ ?_
                                      rotate_left
                                      ·show Act.put _ (some 153) _ = _
                                       simp only [Act.put, List.setIfInBounds_toArray, List.set_cons_zero, List.set_cons_succ, i64_w, i32_w]
                                       rfl
                                      refine done_ (done_of HT_.out (by kernel_rfl)) ?_
                                      go_wp2
                                      go_roundg k8
                                      case measure => have := HJ3.out; have := HJ7.out; have := HJ15.out; have := HJ18.out; have := HJ22.out; have := HJ39.out; have := HJ43.out; have := HK8.out; omega
                                      case rel => exact ⟨(wrap64 (x140_8 + 1)), (by first | rfl | (simp; done) | (simp [*]; done)), H', ⟨by have := HJ3.out; have := HJ7.out; have := HJ15.out; have := HJ18.out; have := HJ22.out; have := HJ39.out; have := HJ43.out; have := HK8.out; omega⟩, ⟨by (with_reducible repeat (first | refine blk_drewN ?_ _ | refine blk_drew ?_ | refine blk_alloc ?_ _)); exact BK339.out⟩, ⟨by repeat (first | (with_reducible first | exact HB.out | apply below_alloc | apply pw_below_drewN | apply below_drew1 | refine below_set ?_ GE339.out | refine below_set ?_ GE376.out) | exact HB.out)⟩⟩
                                    ·rw [if_neg c79] at H
                                     exact absurd H (by simp)
                                   ·rw [if_neg c78] at H
                                    exact absurd H (by simp)
                                  ·rw [if_neg c77] at H
                                   exact absurd H (by simp)
                                 ·rw [if_neg c76] at H
                                  exact absurd H (by simp)
                                ·rw [if_neg c75] at H
                                 exact absurd H (by simp)
                               ·rw [if_neg c74] at H
                                exact absurd H (by simp)
                              ·rw [if_neg c73] at H
                               have c73b0 : decide (x140_8 < (y369.length : Int)) = false := decide_eq_false c73
                               clear c73
                               obtain rfl := Option.some.inj H
                               go_wp2
                               go_ret
                               exact ⟨by first | rfl | (simp [errW_none, errW_some] <;> rfl) | (simp [*, errW_none, errW_some] <;> rfl), by repeat (first | (with_reducible first | exact HB.out | apply below_alloc | apply pw_below_drewN | apply below_drew1 | refine below_set ?_ GE339.out) | exact HB.out)⟩
                           ·rw [if_neg c70] at H
                            exact absurd H (by simp)
                          ·rw [if_neg c69] at H
                           exact absurd H (by simp)
                     ·rw [if_neg c38] at H
                      exact absurd H (by simp)
                    ·rw [if_neg c37] at H
                     exact absurd H (by simp)
                   ·rw [if_neg c36] at H
                    exact absurd H (by simp)
                  ·rw [if_neg c35] at H
                   exact absurd H (by simp)
                 ·rw [if_neg c34] at H
                  exact absurd H (by simp)
                ·rw [if_neg c33] at H
                 exact absurd H (by simp)

end Go.Proofs.Ytfbcjeknibfjcaa.P
