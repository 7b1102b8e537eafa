-- printed by gprint.py (a program of this seat over the kit's print.py): Lean checks it
import Derived.Test.YtfbcjeknibfjcaaP0
import Derived.Test.YtfbcjeknibfjcaaP1
import Derived.Test.YtfbcjeknibfjcaaP11
import Derived.Test.YtfbcjeknibfjcaaP15
import Derived.Test.YtfbcjeknibfjcaaG
import Derived.Test.YtfbcjeknibfjcaaG8
import Derived.Test.YtfbcjeknibfjcaaH
namespace Go.Proofs.Ytfbcjeknibfjcaa.P
open Go.RowKit Go.Proofs.YtfbcjeknibfjcaaW.PrintWords Go.Proofs.YtfbcjeknibfjcaaW.PrintLast Go.Proofs.YtfbcjeknibfjcaaW.PrintMore
attribute [local go_sem] max2_int min2_int max_two min_two max_three min_three max_four min_four   -- for this text's walks alone
set_option linter.unusedVariables false
set_option linter.unusedSimpArgs false

/-! ### testamurlaw13_DependsSound: function 6 -/
mutual
def testamurlaw13_DependsSound.j0 : Nat → List (S49) → ByteArray → ByteArray → Int → Int → List (S97) → List (S29) → List ByteArray → ByteArray → List Int → Int → Option (Bool)
 | 0, _, _, _, _, _, _, _, _, _, _, _ => none
 | k + 1, x1, x284000, x284001, x284002, x284003, x284004, x284005, x285000, x285001, x285002, x285003 => (testamurref13_Few.f k x284000 x284001 x284002 x284003 x284004 x284005).bind fun t286 => (if t286 = true then ((testamurref13_FewInstances.f k x1).bind fun t287 => (if t287 = true then (testamurlaw13_DependsSound.j1 k x1 (decide ((x285002.length : Int) > 30)) x284000 x284001 x284002 x284003 x284004 x284005 x285000 x285001 x285002 x285003) else (testamurlaw13_DependsSound.j1 k x1 true x284000 x284001 x284002 x284003 x284004 x284005 x285000 x285001 x285002 x285003))) else (testamurlaw13_DependsSound.j1 k x1 true x284000 x284001 x284002 x284003 x284004 x284005 x285000 x285001 x285002 x285003))
def testamurlaw13_DependsSound.j1 : Nat → List (S49) → Bool → ByteArray → ByteArray → Int → Int → List (S97) → List (S29) → List ByteArray → ByteArray → List Int → Int → Option (Bool)
 | 0, _, _, _, _, _, _, _, _, _, _, _, _ => none
 | k + 1, x1, x33, x284000, x284001, x284002, x284003, x284004, x284005, x285000, x285001, x285002, x285003 => if x33 = true then (some true) else (testamurlaw13_DependsSound.j2 k x1 x284000 x284001 x284002 x284003 x284004 x284005 x285000 x285001 x285002 x285003)
def testamurlaw13_DependsSound.j2 : Nat → List (S49) → ByteArray → ByteArray → Int → Int → List (S97) → List (S29) → List ByteArray → ByteArray → List Int → Int → Option (Bool)
 | 0, _, _, _, _, _, _, _, _, _, _, _ => none
 | k + 1, x1, x284000, x284001, x284002, x284003, x284004, x284005, x285000, x285001, x285002, x285003 => (depends_Broken.f x284000 x284001 x284002 x284003 x284004 x284005 x1).bind fun bt288 => ((depends_Implied.f k x284000 x284001 x284002 x284003 x284004 x284005 x285000 x285001 x285002 x285003).bind fun bt293 => (if bt288.2.2.2.2 = 0 then (if bt293.2 = 0 then (if bt288.2.2.2.1 = true then (testamurlaw13_DependsSound.j3 k x1 true x285000 x285001 x285002 x285003) else (testamurlaw13_DependsSound.j3 k x1 (!bt293.1) x285000 x285001 x285002 x285003)) else (testamurlaw13_DependsSound.j3 k x1 true x285000 x285001 x285002 x285003)) else (testamurlaw13_DependsSound.j3 k x1 true x285000 x285001 x285002 x285003)))
def testamurlaw13_DependsSound.j3 : Nat → List (S49) → Bool → List ByteArray → ByteArray → List Int → Int → Option (Bool)
 | 0, _, _, _, _, _, _ => none
 | k + 1, x1, x61, x285000, x285001, x285002, x285003 => if x61 = true then (some true) else (testamurlaw13_DependsSound.j4 k x1 x285000 x285001 x285002 x285003)
def testamurlaw13_DependsSound.j4 : Nat → List (S49) → List ByteArray → ByteArray → List Int → Int → Option (Bool)
 | 0, _, _, _, _, _ => none
 | k + 1, x1, x285000, x285001, x285002, x285003 => testamurlaw13_DependsSound.l0 k x1 x1 (x1.length : Int) 0 x285000 x285001 x285002 x285003
def testamurlaw13_DependsSound.l0 : Nat → List (S49) → List (S49) → Int → Int → List ByteArray → ByteArray → List Int → Int → Option (Bool)
 | 0, _, _, _, _, _, _, _, _ => none
 | k + 1, x1, x62, x63, x64, x285000, x285001, x285002, x285003 => if x64 < x63 then (testamurlaw13_DependsSound.j6 k x1 x62 x63 x64 x285000 x285001 x285002 x285003) else (some true)
def testamurlaw13_DependsSound.j6 : Nat → List (S49) → List (S49) → Int → Int → List ByteArray → ByteArray → List Int → Int → Option (Bool)
 | 0, _, _, _, _, _, _, _, _ => none
 | k + 1, x1, x62, x63, x64, x285000, x285001, x285002, x285003 => if 0 ≤ x64 then (if x64 < (x62.length : Int) then (if x64 ≤ (x1.length : Int) then ((some (x1.take (x64 : Int).toNat : List (S49))).bind fun y299 => (testamurlaw13_DependsSound.l1 k x1 x62 x63 x64 y299 (y299.length : Int) 0 x285000 x285001 x285002 x285003 ((rd_T49 x62 x64).f0) ((rd_T49 x62 x64).f1) ((rd_T49 x62 x64).f2) ((rd_T49 x62 x64).f3))) else (none)) else (none)) else (none)
def testamurlaw13_DependsSound.l1 : Nat → List (S49) → List (S49) → Int → Int → List (S49) → Int → Int → List ByteArray → ByteArray → List Int → Int → Int → Int → Int → List Int → Option (Bool)
 | 0, _, _, _, _, _, _, _, _, _, _, _, _, _, _, _ => none
 | k + 1, x1, x62, x63, x64, x71, x72, x73, x285000, x285001, x285002, x285003, x299000, x299001, x299002, x299003 => if x73 < x72 then (if 0 ≤ x73 then (if x73 < (x71.length : Int) then ((testamurlaw13_breaks.f x299000 x299001 x299002 x299003 ((rd_T49 x71 x73).f0) ((rd_T49 x71 x73).f1) ((rd_T49 x71 x73).f2) ((rd_T49 x71 x73).f3) x285000 x285001 x285002 x285003).bind fun t307 => (if t307 = true then (some false) else (testamurlaw13_DependsSound.l1 k x1 x62 x63 x64 x71 x72 (wrap64 (x73 + 1)) x285000 x285001 x285002 x285003 x299000 x299001 x299002 x299003))) else (none)) else (none)) else (testamurlaw13_DependsSound.l0 k x1 x62 x63 (wrap64 (x64 + 1)) x285000 x285001 x285002 x285003)
end
def testamurlaw13_DependsSound.f (k : Nat) (a0_0 : ByteArray) (a0_1 : ByteArray) (a0_2 : Int) (a0_3 : Int) (l0_4 : List (S97)) (l0_5 : List (S29)) (l1 : List (S49)) (l2_0 : List ByteArray) (a2_1 : ByteArray) (l2_2 : List Int) (a2_3 : Int) : Option (Bool) := (testamurlaw13_sane.f).bind fun t285 => (if t285 = true then (testamurlaw13_DependsSound.j0 k l1 a0_0 a0_1 a0_2 a0_3 l0_4 l0_5 l2_0 a2_1 l2_2 a2_3) else (none))
theorem testamurlaw13_DependsSound.mono_l : ∀ k, (∀ y0 y1 y2 y3 y4 y5 y6 y7 y8 y9 y10, LeO (testamurlaw13_DependsSound.j0 k y0 y1 y2 y3 y4 y5 y6 y7 y8 y9 y10) (testamurlaw13_DependsSound.j0 (k + 1) y0 y1 y2 y3 y4 y5 y6 y7 y8 y9 y10)) ∧ (∀ y0 y1 y2 y3 y4 y5 y6 y7 y8 y9 y10 y11, LeO (testamurlaw13_DependsSound.j1 k y0 y1 y2 y3 y4 y5 y6 y7 y8 y9 y10 y11) (testamurlaw13_DependsSound.j1 (k + 1) y0 y1 y2 y3 y4 y5 y6 y7 y8 y9 y10 y11)) ∧ (∀ y0 y1 y2 y3 y4 y5 y6 y7 y8 y9 y10, LeO (testamurlaw13_DependsSound.j2 k y0 y1 y2 y3 y4 y5 y6 y7 y8 y9 y10) (testamurlaw13_DependsSound.j2 (k + 1) y0 y1 y2 y3 y4 y5 y6 y7 y8 y9 y10)) ∧ (∀ y0 y1 y2 y3 y4 y5, LeO (testamurlaw13_DependsSound.j3 k y0 y1 y2 y3 y4 y5) (testamurlaw13_DependsSound.j3 (k + 1) y0 y1 y2 y3 y4 y5)) ∧ (∀ y0 y1 y2 y3 y4, LeO (testamurlaw13_DependsSound.j4 k y0 y1 y2 y3 y4) (testamurlaw13_DependsSound.j4 (k + 1) y0 y1 y2 y3 y4)) ∧ (∀ y0 y1 y2 y3 y4 y5 y6 y7, LeO (testamurlaw13_DependsSound.l0 k y0 y1 y2 y3 y4 y5 y6 y7) (testamurlaw13_DependsSound.l0 (k + 1) y0 y1 y2 y3 y4 y5 y6 y7)) ∧ (∀ y0 y1 y2 y3 y4 y5 y6 y7, LeO (testamurlaw13_DependsSound.j6 k y0 y1 y2 y3 y4 y5 y6 y7) (testamurlaw13_DependsSound.j6 (k + 1) y0 y1 y2 y3 y4 y5 y6 y7)) ∧ (∀ y0 y1 y2 y3 y4 y5 y6 y7 y8 y9 y10 y11 y12 y13 y14, LeO (testamurlaw13_DependsSound.l1 k y0 y1 y2 y3 y4 y5 y6 y7 y8 y9 y10 y11 y12 y13 y14) (testamurlaw13_DependsSound.l1 (k + 1) y0 y1 y2 y3 y4 y5 y6 y7 y8 y9 y10 y11 y12 y13 y14))
 | 0 => ⟨fun _ _ _ _ _ _ _ _ _ _ _ r h => by simp [testamurlaw13_DependsSound.j0] at h, fun _ _ _ _ _ _ _ _ _ _ _ _ r h => by simp [testamurlaw13_DependsSound.j1] at h, fun _ _ _ _ _ _ _ _ _ _ _ r h => by simp [testamurlaw13_DependsSound.j2] at h, fun _ _ _ _ _ _ r h => by simp [testamurlaw13_DependsSound.j3] at h, fun _ _ _ _ _ r h => by simp [testamurlaw13_DependsSound.j4] at h, fun _ _ _ _ _ _ _ _ r h => by simp [testamurlaw13_DependsSound.l0] at h, fun _ _ _ _ _ _ _ _ r h => by simp [testamurlaw13_DependsSound.j6] at h, fun _ _ _ _ _ _ _ _ _ _ _ _ _ _ _ r h => by simp [testamurlaw13_DependsSound.l1] at h⟩
 | k + 1 => by
  obtain ⟨ih0, ih1, ih2, ih3, ih4, ih5, ih6, ih7⟩ := testamurlaw13_DependsSound.mono_l k
  refine ⟨?_, ?_, ?_, ?_, ?_, ?_, ?_, ?_⟩
  ·intro y0 y1 y2 y3 y4 y5 y6 y7 y8 y9 y10
   unfold testamurlaw13_DependsSound.j0
   repeat' first
   | (with_reducible exact ih0 _ _ _ _ _ _ _ _ _ _ _)
   | (with_reducible exact ih1 _ _ _ _ _ _ _ _ _ _ _ _)
   | (with_reducible exact ih2 _ _ _ _ _ _ _ _ _ _ _)
   | (with_reducible exact ih3 _ _ _ _ _ _)
   | (with_reducible exact ih4 _ _ _ _ _)
   | (with_reducible exact ih5 _ _ _ _ _ _ _ _)
   | (with_reducible exact ih6 _ _ _ _ _ _ _ _)
   | (with_reducible exact ih7 _ _ _ _ _ _ _ _ _ _ _ _ _ _ _)
   | (with_reducible exact depends_Implied.mono _ _ _ _ _ _ _ _ _ _ _)
   | (with_reducible exact testamurref13_Few.mono _ _ _ _ _ _ _)
   | (with_reducible exact testamurref13_FewInstances.mono _ _)
   | (with_reducible exact LeO.refl _)
   | (with_reducible exact LeO.none _)
   | (with_reducible refine LeO.ite ?_ ?_)
   | (with_reducible refine LeO.bind ?_ (fun _ => ?_))
   | exact ih0 _ _ _ _ _ _ _ _ _ _ _
   | exact ih1 _ _ _ _ _ _ _ _ _ _ _ _
   | exact ih2 _ _ _ _ _ _ _ _ _ _ _
   | exact ih3 _ _ _ _ _ _
   | exact ih4 _ _ _ _ _
   | exact ih5 _ _ _ _ _ _ _ _
   | exact ih6 _ _ _ _ _ _ _ _
   | exact ih7 _ _ _ _ _ _ _ _ _ _ _ _ _ _ _
   | exact depends_Implied.mono _ _ _ _ _ _ _ _ _ _ _
   | exact testamurref13_Few.mono _ _ _ _ _ _ _
   | exact testamurref13_FewInstances.mono _ _
   | exact LeO.none _
   | refine LeO.ite ?_ ?_
   | refine LeO.bind ?_ (fun _ => ?_)
  ·intro y0 y1 y2 y3 y4 y5 y6 y7 y8 y9 y10 y11
   unfold testamurlaw13_DependsSound.j1
   repeat' first
   | (with_reducible exact ih0 _ _ _ _ _ _ _ _ _ _ _)
   | (with_reducible exact ih1 _ _ _ _ _ _ _ _ _ _ _ _)
   | (with_reducible exact ih2 _ _ _ _ _ _ _ _ _ _ _)
   | (with_reducible exact ih3 _ _ _ _ _ _)
   | (with_reducible exact ih4 _ _ _ _ _)
   | (with_reducible exact ih5 _ _ _ _ _ _ _ _)
   | (with_reducible exact ih6 _ _ _ _ _ _ _ _)
   | (with_reducible exact ih7 _ _ _ _ _ _ _ _ _ _ _ _ _ _ _)
   | (with_reducible exact depends_Implied.mono _ _ _ _ _ _ _ _ _ _ _)
   | (with_reducible exact testamurref13_Few.mono _ _ _ _ _ _ _)
   | (with_reducible exact testamurref13_FewInstances.mono _ _)
   | (with_reducible exact LeO.refl _)
   | (with_reducible exact LeO.none _)
   | (with_reducible refine LeO.ite ?_ ?_)
   | (with_reducible refine LeO.bind ?_ (fun _ => ?_))
   | exact ih0 _ _ _ _ _ _ _ _ _ _ _
   | exact ih1 _ _ _ _ _ _ _ _ _ _ _ _
   | exact ih2 _ _ _ _ _ _ _ _ _ _ _
   | exact ih3 _ _ _ _ _ _
   | exact ih4 _ _ _ _ _
   | exact ih5 _ _ _ _ _ _ _ _
   | exact ih6 _ _ _ _ _ _ _ _
   | exact ih7 _ _ _ _ _ _ _ _ _ _ _ _ _ _ _
   | exact depends_Implied.mono _ _ _ _ _ _ _ _ _ _ _
   | exact testamurref13_Few.mono _ _ _ _ _ _ _
   | exact testamurref13_FewInstances.mono _ _
   | exact LeO.none _
   | refine LeO.ite ?_ ?_
   | refine LeO.bind ?_ (fun _ => ?_)
  ·intro y0 y1 y2 y3 y4 y5 y6 y7 y8 y9 y10
   unfold testamurlaw13_DependsSound.j2
   repeat' first
   | (with_reducible exact ih0 _ _ _ _ _ _ _ _ _ _ _)
   | (with_reducible exact ih1 _ _ _ _ _ _ _ _ _ _ _ _)
   | (with_reducible exact ih2 _ _ _ _ _ _ _ _ _ _ _)
   | (with_reducible exact ih3 _ _ _ _ _ _)
   | (with_reducible exact ih4 _ _ _ _ _)
   | (with_reducible exact ih5 _ _ _ _ _ _ _ _)
   | (with_reducible exact ih6 _ _ _ _ _ _ _ _)
   | (with_reducible exact ih7 _ _ _ _ _ _ _ _ _ _ _ _ _ _ _)
   | (with_reducible exact depends_Implied.mono _ _ _ _ _ _ _ _ _ _ _)
   | (with_reducible exact testamurref13_Few.mono _ _ _ _ _ _ _)
   | (with_reducible exact testamurref13_FewInstances.mono _ _)
   | (with_reducible exact LeO.refl _)
   | (with_reducible exact LeO.none _)
   | (with_reducible refine LeO.ite ?_ ?_)
   | (with_reducible refine LeO.bind ?_ (fun _ => ?_))
   | exact ih0 _ _ _ _ _ _ _ _ _ _ _
   | exact ih1 _ _ _ _ _ _ _ _ _ _ _ _
   | exact ih2 _ _ _ _ _ _ _ _ _ _ _
   | exact ih3 _ _ _ _ _ _
   | exact ih4 _ _ _ _ _
   | exact ih5 _ _ _ _ _ _ _ _
   | exact ih6 _ _ _ _ _ _ _ _
   | exact ih7 _ _ _ _ _ _ _ _ _ _ _ _ _ _ _
   | exact depends_Implied.mono _ _ _ _ _ _ _ _ _ _ _
   | exact testamurref13_Few.mono _ _ _ _ _ _ _
   | exact testamurref13_FewInstances.mono _ _
   | exact LeO.none _
   | refine LeO.ite ?_ ?_
   | refine LeO.bind ?_ (fun _ => ?_)
  ·intro y0 y1 y2 y3 y4 y5
   unfold testamurlaw13_DependsSound.j3
   repeat' first
   | (with_reducible exact ih0 _ _ _ _ _ _ _ _ _ _ _)
   | (with_reducible exact ih1 _ _ _ _ _ _ _ _ _ _ _ _)
   | (with_reducible exact ih2 _ _ _ _ _ _ _ _ _ _ _)
   | (with_reducible exact ih3 _ _ _ _ _ _)
   | (with_reducible exact ih4 _ _ _ _ _)
   | (with_reducible exact ih5 _ _ _ _ _ _ _ _)
   | (with_reducible exact ih6 _ _ _ _ _ _ _ _)
   | (with_reducible exact ih7 _ _ _ _ _ _ _ _ _ _ _ _ _ _ _)
   | (with_reducible exact depends_Implied.mono _ _ _ _ _ _ _ _ _ _ _)
   | (with_reducible exact testamurref13_Few.mono _ _ _ _ _ _ _)
   | (with_reducible exact testamurref13_FewInstances.mono _ _)
   | (with_reducible exact LeO.refl _)
   | (with_reducible exact LeO.none _)
   | (with_reducible refine LeO.ite ?_ ?_)
   | (with_reducible refine LeO.bind ?_ (fun _ => ?_))
   | exact ih0 _ _ _ _ _ _ _ _ _ _ _
   | exact ih1 _ _ _ _ _ _ _ _ _ _ _ _
   | exact ih2 _ _ _ _ _ _ _ _ _ _ _
   | exact ih3 _ _ _ _ _ _
   | exact ih4 _ _ _ _ _
   | exact ih5 _ _ _ _ _ _ _ _
   | exact ih6 _ _ _ _ _ _ _ _
   | exact ih7 _ _ _ _ _ _ _ _ _ _ _ _ _ _ _
   | exact depends_Implied.mono _ _ _ _ _ _ _ _ _ _ _
   | exact testamurref13_Few.mono _ _ _ _ _ _ _
   | exact testamurref13_FewInstances.mono _ _
   | exact LeO.none _
   | refine LeO.ite ?_ ?_
   | refine LeO.bind ?_ (fun _ => ?_)
  ·intro y0 y1 y2 y3 y4
   unfold testamurlaw13_DependsSound.j4
   repeat' first
   | (with_reducible exact ih0 _ _ _ _ _ _ _ _ _ _ _)
   | (with_reducible exact ih1 _ _ _ _ _ _ _ _ _ _ _ _)
   | (with_reducible exact ih2 _ _ _ _ _ _ _ _ _ _ _)
   | (with_reducible exact ih3 _ _ _ _ _ _)
   | (with_reducible exact ih4 _ _ _ _ _)
   | (with_reducible exact ih5 _ _ _ _ _ _ _ _)
   | (with_reducible exact ih6 _ _ _ _ _ _ _ _)
   | (with_reducible exact ih7 _ _ _ _ _ _ _ _ _ _ _ _ _ _ _)
   | (with_reducible exact depends_Implied.mono _ _ _ _ _ _ _ _ _ _ _)
   | (with_reducible exact testamurref13_Few.mono _ _ _ _ _ _ _)
   | (with_reducible exact testamurref13_FewInstances.mono _ _)
   | (with_reducible exact LeO.refl _)
   | (with_reducible exact LeO.none _)
   | (with_reducible refine LeO.ite ?_ ?_)
   | (with_reducible refine LeO.bind ?_ (fun _ => ?_))
   | exact ih0 _ _ _ _ _ _ _ _ _ _ _
   | exact ih1 _ _ _ _ _ _ _ _ _ _ _ _
   | exact ih2 _ _ _ _ _ _ _ _ _ _ _
   | exact ih3 _ _ _ _ _ _
   | exact ih4 _ _ _ _ _
   | exact ih5 _ _ _ _ _ _ _ _
   | exact ih6 _ _ _ _ _ _ _ _
   | exact ih7 _ _ _ _ _ _ _ _ _ _ _ _ _ _ _
   | exact depends_Implied.mono _ _ _ _ _ _ _ _ _ _ _
   | exact testamurref13_Few.mono _ _ _ _ _ _ _
   | exact testamurref13_FewInstances.mono _ _
   | exact LeO.none _
   | refine LeO.ite ?_ ?_
   | refine LeO.bind ?_ (fun _ => ?_)
  ·intro y0 y1 y2 y3 y4 y5 y6 y7
   unfold testamurlaw13_DependsSound.l0
   repeat' first
   | (with_reducible exact ih0 _ _ _ _ _ _ _ _ _ _ _)
   | (with_reducible exact ih1 _ _ _ _ _ _ _ _ _ _ _ _)
   | (with_reducible exact ih2 _ _ _ _ _ _ _ _ _ _ _)
   | (with_reducible exact ih3 _ _ _ _ _ _)
   | (with_reducible exact ih4 _ _ _ _ _)
   | (with_reducible exact ih5 _ _ _ _ _ _ _ _)
   | (with_reducible exact ih6 _ _ _ _ _ _ _ _)
   | (with_reducible exact ih7 _ _ _ _ _ _ _ _ _ _ _ _ _ _ _)
   | (with_reducible exact depends_Implied.mono _ _ _ _ _ _ _ _ _ _ _)
   | (with_reducible exact testamurref13_Few.mono _ _ _ _ _ _ _)
   | (with_reducible exact testamurref13_FewInstances.mono _ _)
   | (with_reducible exact LeO.refl _)
   | (with_reducible exact LeO.none _)
   | (with_reducible refine LeO.ite ?_ ?_)
   | (with_reducible refine LeO.bind ?_ (fun _ => ?_))
   | exact ih0 _ _ _ _ _ _ _ _ _ _ _
   | exact ih1 _ _ _ _ _ _ _ _ _ _ _ _
   | exact ih2 _ _ _ _ _ _ _ _ _ _ _
   | exact ih3 _ _ _ _ _ _
   | exact ih4 _ _ _ _ _
   | exact ih5 _ _ _ _ _ _ _ _
   | exact ih6 _ _ _ _ _ _ _ _
   | exact ih7 _ _ _ _ _ _ _ _ _ _ _ _ _ _ _
   | exact depends_Implied.mono _ _ _ _ _ _ _ _ _ _ _
   | exact testamurref13_Few.mono _ _ _ _ _ _ _
   | exact testamurref13_FewInstances.mono _ _
   | exact LeO.none _
   | refine LeO.ite ?_ ?_
   | refine LeO.bind ?_ (fun _ => ?_)
  ·intro y0 y1 y2 y3 y4 y5 y6 y7
   unfold testamurlaw13_DependsSound.j6
   repeat' first
   | (with_reducible exact ih0 _ _ _ _ _ _ _ _ _ _ _)
   | (with_reducible exact ih1 _ _ _ _ _ _ _ _ _ _ _ _)
   | (with_reducible exact ih2 _ _ _ _ _ _ _ _ _ _ _)
   | (with_reducible exact ih3 _ _ _ _ _ _)
   | (with_reducible exact ih4 _ _ _ _ _)
   | (with_reducible exact ih5 _ _ _ _ _ _ _ _)
   | (with_reducible exact ih6 _ _ _ _ _ _ _ _)
   | (with_reducible exact ih7 _ _ _ _ _ _ _ _ _ _ _ _ _ _ _)
   | (with_reducible exact depends_Implied.mono _ _ _ _ _ _ _ _ _ _ _)
   | (with_reducible exact testamurref13_Few.mono _ _ _ _ _ _ _)
   | (with_reducible exact testamurref13_FewInstances.mono _ _)
   | (with_reducible exact LeO.refl _)
   | (with_reducible exact LeO.none _)
   | (with_reducible refine LeO.ite ?_ ?_)
   | (with_reducible refine LeO.bind ?_ (fun _ => ?_))
   | exact ih0 _ _ _ _ _ _ _ _ _ _ _
   | exact ih1 _ _ _ _ _ _ _ _ _ _ _ _
   | exact ih2 _ _ _ _ _ _ _ _ _ _ _
   | exact ih3 _ _ _ _ _ _
   | exact ih4 _ _ _ _ _
   | exact ih5 _ _ _ _ _ _ _ _
   | exact ih6 _ _ _ _ _ _ _ _
   | exact ih7 _ _ _ _ _ _ _ _ _ _ _ _ _ _ _
   | exact depends_Implied.mono _ _ _ _ _ _ _ _ _ _ _
   | exact testamurref13_Few.mono _ _ _ _ _ _ _
   | exact testamurref13_FewInstances.mono _ _
   | exact LeO.none _
   | refine LeO.ite ?_ ?_
   | refine LeO.bind ?_ (fun _ => ?_)
  ·intro y0 y1 y2 y3 y4 y5 y6 y7 y8 y9 y10 y11 y12 y13 y14
   unfold testamurlaw13_DependsSound.l1
   repeat' first
   | (with_reducible exact ih0 _ _ _ _ _ _ _ _ _ _ _)
   | (with_reducible exact ih1 _ _ _ _ _ _ _ _ _ _ _ _)
   | (with_reducible exact ih2 _ _ _ _ _ _ _ _ _ _ _)
   | (with_reducible exact ih3 _ _ _ _ _ _)
   | (with_reducible exact ih4 _ _ _ _ _)
   | (with_reducible exact ih5 _ _ _ _ _ _ _ _)
   | (with_reducible exact ih6 _ _ _ _ _ _ _ _)
   | (with_reducible exact ih7 _ _ _ _ _ _ _ _ _ _ _ _ _ _ _)
   | (with_reducible exact depends_Implied.mono _ _ _ _ _ _ _ _ _ _ _)
   | (with_reducible exact testamurref13_Few.mono _ _ _ _ _ _ _)
   | (with_reducible exact testamurref13_FewInstances.mono _ _)
   | (with_reducible exact LeO.refl _)
   | (with_reducible exact LeO.none _)
   | (with_reducible refine LeO.ite ?_ ?_)
   | (with_reducible refine LeO.bind ?_ (fun _ => ?_))
   | exact ih0 _ _ _ _ _ _ _ _ _ _ _
   | exact ih1 _ _ _ _ _ _ _ _ _ _ _ _
   | exact ih2 _ _ _ _ _ _ _ _ _ _ _
   | exact ih3 _ _ _ _ _ _
   | exact ih4 _ _ _ _ _
   | exact ih5 _ _ _ _ _ _ _ _
   | exact ih6 _ _ _ _ _ _ _ _
   | exact ih7 _ _ _ _ _ _ _ _ _ _ _ _ _ _ _
   | exact depends_Implied.mono _ _ _ _ _ _ _ _ _ _ _
   | exact testamurref13_Few.mono _ _ _ _ _ _ _
   | exact testamurref13_FewInstances.mono _ _
   | exact LeO.none _
   | refine LeO.ite ?_ ?_
   | refine LeO.bind ?_ (fun _ => ?_)
theorem testamurlaw13_DependsSound.mono : ∀ a0 a1 a2 a3 a4 a5 a6 a7 a8 a9 a10 k, LeO (testamurlaw13_DependsSound.f k a0 a1 a2 a3 a4 a5 a6 a7 a8 a9 a10) (testamurlaw13_DependsSound.f (k + 1) a0 a1 a2 a3 a4 a5 a6 a7 a8 a9 a10) := by
 intro a0 a1 a2 a3 a4 a5 a6 a7 a8 a9 a10 k
 obtain ⟨ih0, ih1, ih2, ih3, ih4, ih5, ih6, ih7⟩ := testamurlaw13_DependsSound.mono_l k
 unfold testamurlaw13_DependsSound.f
 repeat' first
   | (with_reducible exact ih0 _ _ _ _ _ _ _ _ _ _ _)
   | (with_reducible exact ih1 _ _ _ _ _ _ _ _ _ _ _ _)
   | (with_reducible exact ih2 _ _ _ _ _ _ _ _ _ _ _)
   | (with_reducible exact ih3 _ _ _ _ _ _)
   | (with_reducible exact ih4 _ _ _ _ _)
   | (with_reducible exact ih5 _ _ _ _ _ _ _ _)
   | (with_reducible exact ih6 _ _ _ _ _ _ _ _)
   | (with_reducible exact ih7 _ _ _ _ _ _ _ _ _ _ _ _ _ _ _)
   | (with_reducible exact depends_Implied.mono _ _ _ _ _ _ _ _ _ _ _)
   | (with_reducible exact testamurref13_Few.mono _ _ _ _ _ _ _)
   | (with_reducible exact testamurref13_FewInstances.mono _ _)
   | (with_reducible exact LeO.refl _)
   | (with_reducible exact LeO.none _)
   | (with_reducible refine LeO.ite ?_ ?_)
   | (with_reducible refine LeO.bind ?_ (fun _ => ?_))
   | exact ih0 _ _ _ _ _ _ _ _ _ _ _
   | exact ih1 _ _ _ _ _ _ _ _ _ _ _ _
   | exact ih2 _ _ _ _ _ _ _ _ _ _ _
   | exact ih3 _ _ _ _ _ _
   | exact ih4 _ _ _ _ _
   | exact ih5 _ _ _ _ _ _ _ _
   | exact ih6 _ _ _ _ _ _ _ _
   | exact ih7 _ _ _ _ _ _ _ _ _ _ _ _ _ _ _
   | exact depends_Implied.mono _ _ _ _ _ _ _ _ _ _ _
   | exact testamurref13_Few.mono _ _ _ _ _ _ _
   | exact testamurref13_FewInstances.mono _ _
   | exact LeO.none _
   | refine LeO.ite ?_ ?_
   | refine LeO.bind ?_ (fun _ => ?_)
set_option maxHeartbeats 8000000 in
set_option maxRecDepth 100000 in
theorem testamurlaw13_DependsSound.calls (k : Nat) (a0_0 : ByteArray) (a0_1 : ByteArray) (a0_2 : Int) (a0_3 : Int) (A0_4 : Option Addr) (c0_4 : Nat) (l0_4 : List (S97)) (A0_5 : Option Addr) (c0_5 : Nat) (l0_5 : List (S29)) (A1 : Option Addr) (c1 : Nat) (l1 : List (S49)) (A2_0 : Option Addr) (c2_0 : Nat) (l2_0 : List ByteArray) (a2_1 : ByteArray) (A2_2 : Option Addr) (c2_2 : Nat) (l2_2 : List Int) (a2_3 : Int) (r : Bool) (w : World) (hr0_4 : Kd.C k97 w A0_4 l0_4.length l0_4) (hc0_4 : l0_4.length ≤ c0_4) (hr0_5 : Kd.C k29 w A0_5 l0_5.length l0_5) (hc0_5 : l0_5.length ≤ c0_5) (hr1 : Kd.C k49 w A1 l1.length l1) (hc1 : l1.length ≤ c1) (hr2_0 : Kd.C Kd.string w A2_0 l2_0.length l2_0) (hc2_0 : l2_0.length ≤ c2_0) (hr2_2 : Kd.C (Kd.int .i64) w A2_2 l2_2.length l2_2) (hc2_2 : l2_2.length ≤ c2_2) (h : testamurlaw13_DependsSound.f k a0_0 a0_1 a0_2 a0_3 l0_4 l0_5 l1 l2_0 a2_1 l2_2 a2_3 = some r) :
  Calls Try.prog 6 #[.agg #[.string a0_0, .string a0_1, .int .i64 a0_2, .int .i64 a0_3, .slice A0_4 l0_4.length c0_4, .slice A0_5 l0_5.length c0_5], .slice A1 l1.length c1, .agg #[.slice A2_0 l2_0.length c2_0, .string a2_1, .slice A2_2 l2_2.length c2_2, .int .i64 a2_3]] w fun e w' => e = .returned (.bool r) ∧ Below w.heap.size w w' := by
 have hu25 := Try.underlying25
 have hu29 := Try.underlying29
 have hu49 := Try.underlying49
 have HR0_4 := Aside0.mk hr0_4
 have HC0_4 := Aside0.mk hc0_4
 clear hr0_4 hc0_4
 have HR0_5 := Aside0.mk hr0_5
 have HC0_5 := Aside0.mk hc0_5
 clear hr0_5 hc0_5
 have HR1 := Aside0.mk hr1
 have HC1 := Aside0.mk hc1
 clear hr1 hc1
 have HR2_0 := Aside0.mk hr2_0
 have HC2_0 := Aside0.mk hc2_0
 clear hr2_0 hc2_0
 have HR2_2 := Aside0.mk hr2_2
 have HC2_2 := Aside0.mk hc2_2
 clear hr2_2 hc2_2
 have HB := Aside0.mk (Below.refl w.heap.size w)
 have H : ((testamurlaw13_sane.f).bind fun t285 => (if t285 = true then (testamurlaw13_DependsSound.j0 k l1 a0_0 a0_1 a0_2 a0_3 l0_4 l0_5 l2_0 a2_1 l2_2 a2_3) else (none))) = some r := h
 clear h
 replace H := Option.bind_eq_some_iff.mp H
 obtain ⟨t285, A40, H⟩ := H
 replace H : (if t285 = true then (testamurlaw13_DependsSound.j0 k l1 a0_0 a0_1 a0_2 a0_3 l0_4 l0_5 l2_0 a2_1 l2_2 a2_3) else (none)) = some r := H
 have A4 := Aside0.mk A40
 clear A40
 have HC5 := Aside0.mk H
 clear H
 go_enter Try.func6, Try.ntmps6
 try simp only [List.append]
 go_upto_if 19 with (first | ((with_reducible refine gate_dst (N := 3) rfl ?_); (try (refine gate_guard (by rfl) ?_; dsimp only)); refine box_event ?hg (N := 3) ?hd (cs := #[.string a0_0, .string a0_1, .int .i64 a0_2, .int .i64 a0_3, .slice A0_4 l0_4.length c0_4, .slice A0_5 l0_5.length c0_5]) (t := 25) ?hr ?_; (case hd => rfl); (case hg => rfl); (case hr => first | (go_simp; done) | (go_simp; rfl)); intro gb283 hg w6 hbox hb; have n0_ := Aside0.mk (below_step (by repeat (first | (with_reducible first | exact HB.out | apply below_alloc | apply pw_below_drewN | apply below_drew1) | exact HB.out)) hb); have n1_ := Aside0.mk (hbox); have n2_ := Aside0.mk ((by rw [hg]; exact (below_size (by repeat (first | (with_reducible first | exact HB.out | apply below_alloc | apply pw_below_drewN | apply below_drew1) | exact HB.out))) : w.heap.size ≤ gb283)); have n3_ := Aside0.mk ((by rw [hg]; exact (below_size (by repeat (first | (with_reducible first | exact HB.out | apply below_alloc | apply pw_below_drewN | apply below_drew1) | exact HB.out))) : w.heap.size ≤ gb283)); clear HB; have HB := n0_; have BK283 := n1_; have GW283 := n2_; have GE283 := n3_; clear n0_ n1_ n2_ n3_; clear hb hbox hg) | ((with_reducible refine gate_dst (N := 5) rfl ?_); (try (refine gate_guard (by rfl) ?_; dsimp only)); refine box_event ?hg (N := 5) ?hd (cs := #[.slice A2_0 l2_0.length c2_0, .string a2_1, .slice A2_2 l2_2.length c2_2, .int .i64 a2_3]) (t := 29) ?hr ?_; (case hd => rfl); (case hg => rfl); (case hr => first | (go_simp; done) | (go_simp; rfl)); intro gb284 hg w7 hbox hb; have n0_ := Aside0.mk (blk_below (g := gb283) (o := .cells #[.string a0_0, .string a0_1, .int .i64 a0_2, .int .i64 a0_3, .slice A0_4 l0_4.length c0_4, .slice A0_5 l0_5.length c0_5] 25 (0, 0)) (by (with_reducible repeat (first | refine blk_drewN ?_ _ | refine blk_drew ?_ | refine blk_alloc ?_ _)); exact BK283.out) hb); have n1_ := Aside0.mk (below_step (by repeat (first | (with_reducible first | exact HB.out | apply below_alloc | apply pw_below_drewN | apply below_drew1 | refine below_set ?_ GE283.out) | exact HB.out)) hb); have n2_ := Aside0.mk (hbox); have n3_ := Aside0.mk ((by rw [hg]; exact (below_size (by repeat (first | (with_reducible first | exact HB.out | apply below_alloc | apply pw_below_drewN | apply below_drew1 | refine below_set ?_ GE283.out) | exact HB.out))) : w.heap.size ≤ gb284)); have n4_ := Aside0.mk ((by rw [hg]; exact (below_size (by repeat (first | (with_reducible first | exact HB.out | apply below_alloc | apply pw_below_drewN | apply below_drew1 | refine below_set ?_ GE283.out) | exact HB.out))) : w.heap.size ≤ gb284)); have n5_ := Aside0.mk ((by rw [hg]; exact Nat.ne_of_lt (blk_lt (g := gb283) (o := .cells #[.string a0_0, .string a0_1, .int .i64 a0_2, .int .i64 a0_3, .slice A0_4 l0_4.length c0_4, .slice A0_5 l0_5.length c0_5] 25 (0, 0)) (by (with_reducible repeat (first | refine blk_drewN ?_ _ | refine blk_drew ?_ | refine blk_alloc ?_ _)); exact BK283.out)) : gb283 ≠ gb284)); have n6_ := Aside0.mk ((by rw [hg]; exact Nat.ne_of_gt (blk_lt (g := gb283) (o := .cells #[.string a0_0, .string a0_1, .int .i64 a0_2, .int .i64 a0_3, .slice A0_4 l0_4.length c0_4, .slice A0_5 l0_5.length c0_5] 25 (0, 0)) (by (with_reducible repeat (first | refine blk_drewN ?_ _ | refine blk_drew ?_ | refine blk_alloc ?_ _)); exact BK283.out)) : gb284 ≠ gb283)); clear BK283; clear HB; have BK283 := n0_; have HB := n1_; have BK284 := n2_; have GW284 := n3_; have GE284 := n4_; have NB283_284 := n5_; have NB284_283 := n6_; clear n0_ n1_ n2_ n3_ n4_ n5_ n6_; clear hb hbox hg) | ((with_reducible refine gate_callee (f := 10) rfl ?_); refine goesL_ (some 18) rfl rfl Try.func10 (by kernel_rfl) rfl #[] rfl (by (try simp only [List.map_toArray, List.map_cons, List.map_nil]); first | done | rfl | (simp only [List.length_drop, List.length_take]; rfl)) ?_; (with_reducible refine (testamurlaw13_sane.calls  t285 _ A4.out).mono ?_); rintro e w8 ⟨rfl, hb⟩; refine ⟨_, rfl, ?_⟩; have n0_ := Aside0.mk (blk_below (g := gb283) (o := .cells #[.string a0_0, .string a0_1, .int .i64 a0_2, .int .i64 a0_3, .slice A0_4 l0_4.length c0_4, .slice A0_5 l0_5.length c0_5] 25 (0, 0)) (by (with_reducible repeat (first | refine blk_drewN ?_ _ | refine blk_drew ?_ | refine blk_alloc ?_ _)); exact BK283.out) hb); have n1_ := Aside0.mk (blk_below (g := gb284) (o := .cells #[.slice A2_0 l2_0.length c2_0, .string a2_1, .slice A2_2 l2_2.length c2_2, .int .i64 a2_3] 29 (0, 0)) (by (with_reducible repeat (first | refine blk_drewN ?_ _ | refine blk_drew ?_ | refine blk_alloc ?_ _)); exact BK284.out) hb); have n2_ := Aside0.mk (below_step (by repeat (first | (with_reducible first | exact HB.out | apply below_alloc | apply pw_below_drewN | apply below_drew1 | refine below_set ?_ GE283.out | refine below_set ?_ GE284.out) | exact HB.out)) hb); clear BK283; clear BK284; clear HB; have BK283 := n0_; have BK284 := n1_; have HB := n2_; clear n0_ n1_ n2_; (try clear hb); (try clear hb2); (try clear hk); (try clear hi)))
 (try simp only [Act.put, List.setIfInBounds_toArray, List.set_cons_zero, List.set_cons_succ])
 go_cut [] (fun wc => ∃ (kq : Nat), Aside0 (testamurlaw13_DependsSound.j0 kq l1 a0_0 a0_1 a0_2 a0_3 l0_4 l0_5 l2_0 a2_1 l2_2 a2_3 = some r) ∧ Aside0 (kq ≤ k) ∧ Aside0 (wc.heap[gb283]? = some (.cells #[.string a0_0, .string a0_1, .int .i64 a0_2, .int .i64 a0_3, (.slice A0_4 l0_4.length c0_4), (.slice A0_5 l0_5.length c0_5)] 25 (0, 0))) ∧ Aside0 (wc.heap[gb284]? = some (.cells #[(.slice A2_0 l2_0.length c2_0), .string a2_1, (.slice A2_2 l2_2.length c2_2), .int .i64 a2_3] 29 (0, 0))) ∧ Aside0 (Below w.heap.size w wc))
 case first =>
  have H := HC5.out
  clear HC5
  by_cases c9 : t285 = true
  ·subst c9
   have H1 : (testamurlaw13_DependsSound.j0 k l1 a0_0 a0_1 a0_2 a0_3 l0_4 l0_5 l2_0 a2_1 l2_2 a2_3) = some r := by rw [if_pos rfl] at H; exact H
   clear H
   have H := H1
   clear H1
   have H' := Aside0.mk H
   clear H
   go_wp2
   go_meet
   case rel => exact ⟨_, H', ⟨by first | omega | exact Nat.le_refl _⟩, ⟨by (with_reducible repeat (first | refine blk_drewN ?_ _ | refine blk_drew ?_ | refine blk_alloc ?_ _)); exact BK283.out⟩, ⟨by (with_reducible repeat (first | refine blk_drewN ?_ _ | refine blk_drew ?_ | refine blk_alloc ?_ _)); exact BK284.out⟩, ⟨by repeat (first | (with_reducible first | exact HB.out | apply below_alloc | apply pw_below_drewN | apply below_drew1 | refine below_set ?_ GE283.out | refine below_set ?_ GE284.out) | exact HB.out)⟩⟩
  ·replace c9 := Bool.eq_false_iff.mpr c9
   subst c9
   have H1 : (none) = some r := by rw [if_neg (show ¬ (false = true) by decide)] at H; exact H
   clear H
   have H := H1
   clear H1
   exact absurd H (by simp)
 case rest =>
  clear HC5
  try clear c1
  try clear c2
  try clear p2
  try clear c6
  try clear c9
  obtain ⟨kq, HA, HJ4, BK283, BK284, HB⟩ := hcut
  cases kq with
  | zero => exact absurd HA.out (by simp [testamurlaw13_DependsSound.j0])
  | succ kj4 =>
   have H := HA.out
   clear HA
   simp only [testamurlaw13_DependsSound.j0] at H
   have HC10 := Aside0.mk H
   clear H
   go_upto_region 3 with (fail)
   go_cut [33] (fun v33 wc => ∃ (kq : Nat) (x33_9 : Bool), v33 = .bool x33_9 ∧ Aside0 (testamurlaw13_DependsSound.j1 kq l1 x33_9 a0_0 a0_1 a0_2 a0_3 l0_4 l0_5 l2_0 a2_1 l2_2 a2_3 = some r) ∧ Aside0 (kq ≤ kj4) ∧ Aside0 (wc.heap[gb283]? = some (.cells #[.string a0_0, .string a0_1, .int .i64 a0_2, .int .i64 a0_3, (.slice A0_4 l0_4.length c0_4), (.slice A0_5 l0_5.length c0_5)] 25 (0, 0))) ∧ Aside0 (wc.heap[gb284]? = some (.cells #[(.slice A2_0 l2_0.length c2_0), .string a2_1, (.slice A2_2 l2_2.length c2_2), .int .i64 a2_3] 29 (0, 0))) ∧ Aside0 (Below w.heap.size w wc))
   case first =>
    have H := HC10.out
    clear HC10
    replace H := Option.bind_eq_some_iff.mp H
    obtain ⟨t286, A110, H⟩ := H
    replace H : (if t286 = true then ((testamurref13_FewInstances.f kj4 l1).bind fun t287 => (if t287 = true then (testamurlaw13_DependsSound.j1 kj4 l1 (decide ((l2_2.length : Int) > 30)) a0_0 a0_1 a0_2 a0_3 l0_4 l0_5 l2_0 a2_1 l2_2 a2_3) else (testamurlaw13_DependsSound.j1 kj4 l1 true a0_0 a0_1 a0_2 a0_3 l0_4 l0_5 l2_0 a2_1 l2_2 a2_3))) else (testamurlaw13_DependsSound.j1 kj4 l1 true a0_0 a0_1 a0_2 a0_3 l0_4 l0_5 l2_0 a2_1 l2_2 a2_3)) = some r := H
    have A11 := Aside0.mk A110
    clear A110
    by_cases c12 : t286 = true
    ·subst c12
     have H1 : ((testamurref13_FewInstances.f kj4 l1).bind fun t287 => (if t287 = true then (testamurlaw13_DependsSound.j1 kj4 l1 (decide ((l2_2.length : Int) > 30)) a0_0 a0_1 a0_2 a0_3 l0_4 l0_5 l2_0 a2_1 l2_2 a2_3) else (testamurlaw13_DependsSound.j1 kj4 l1 true a0_0 a0_1 a0_2 a0_3 l0_4 l0_5 l2_0 a2_1 l2_2 a2_3))) = some r := by rw [if_pos rfl] at H; exact H
     clear H
     have H := H1
     clear H1
     replace H := Option.bind_eq_some_iff.mp H
     obtain ⟨t287, A130, H⟩ := H
     replace H : (if t287 = true then (testamurlaw13_DependsSound.j1 kj4 l1 (decide ((l2_2.length : Int) > 30)) a0_0 a0_1 a0_2 a0_3 l0_4 l0_5 l2_0 a2_1 l2_2 a2_3) else (testamurlaw13_DependsSound.j1 kj4 l1 true a0_0 a0_1 a0_2 a0_3 l0_4 l0_5 l2_0 a2_1 l2_2 a2_3)) = some r := H
     have A13 := Aside0.mk A130
     clear A130
     by_cases c14 : t287 = true
     ·subst c14
      have H1 : (testamurlaw13_DependsSound.j1 kj4 l1 (decide ((l2_2.length : Int) > 30)) a0_0 a0_1 a0_2 a0_3 l0_4 l0_5 l2_0 a2_1 l2_2 a2_3) = some r := by rw [if_pos rfl] at H; exact H
      clear H
      have H := H1
      clear H1
      have H' := Aside0.mk H
      clear H
      have hnb15 := NB283_284.out
      have hnc15 := NB284_283.out
      have hcz16_0 : wc.cell? ⟨gb283, 0, none⟩ = some (.string a0_0) := (blk_cell BK283.out 0).trans rfl
      have hcz16_1 : wc.cell? ⟨gb283, 1, none⟩ = some (.string a0_1) := (blk_cell BK283.out 1).trans rfl
      have hcz16_2 : wc.cell? ⟨gb283, 2, none⟩ = some (.int .i64 a0_2) := (blk_cell BK283.out 2).trans rfl
      have hcz16_3 : wc.cell? ⟨gb283, 3, none⟩ = some (.int .i64 a0_3) := (blk_cell BK283.out 3).trans rfl
      have hcz16_4 : wc.cell? ⟨gb283, 4, none⟩ = some (.slice A0_4 l0_4.length c0_4) := (blk_cell BK283.out 4).trans rfl
      have hcz16_5 : wc.cell? ⟨gb283, 5, none⟩ = some (.slice A0_5 l0_5.length c0_5) := (blk_cell BK283.out 5).trans rfl
      have hfz16_0 := blk_frozen BK283.out 0
      have hfz16_1 := blk_frozen BK283.out 1
      have hfz16_2 := blk_frozen BK283.out 2
      have hfz16_3 := blk_frozen BK283.out 3
      have hfz16_4 := blk_frozen BK283.out 4
      have hfz16_5 := blk_frozen BK283.out 5
      go_wp2_with ((with_reducible refine gate_callee (f := 11) rfl ?_); refine Aside0.out (p := _) ?_)
      refine ⟨?_⟩
      refine goesL_ (some 21) rfl rfl Try.func11 (by kernel_rfl) rfl #[.agg #[.string a0_0, .string a0_1, .int .i64 a0_2, .int .i64 a0_3, .slice A0_4 l0_4.length c0_4, .slice A0_5 l0_5.length c0_5]] rfl (by (try simp only [List.map_toArray, List.map_cons, List.map_nil]); first | done | rfl | (simp only [List.length_drop, List.length_take]; rfl)) ?_
      (with_reducible refine (testamurref13_Few.calls kj4 a0_0 a0_1 a0_2 a0_3 _ _ l0_4 _ _ l0_5 true _ ?side1 ?side2 ?side3 ?side4 A11.out).mono ?_)
      (case side1 => repeat (first | exact (Kd.C_below HR0_4.out HB.out) | (with_reducible refine Kd.C_alloc ?_ _) | (with_reducible refine Kd.C_drewN ?_ _) | (with_reducible refine Kd.C_drew ?_)))
      (case side2 => exact HC0_4.out)
      (case side3 => repeat (first | exact (Kd.C_below HR0_5.out HB.out) | (with_reducible refine Kd.C_alloc ?_ _) | (with_reducible refine Kd.C_drewN ?_ _) | (with_reducible refine Kd.C_drew ?_)))
      (case side4 => exact HC0_5.out)
      rintro e w17 ⟨rfl, hb⟩
      refine ⟨_, rfl, ?_⟩
      have n0_ := Aside0.mk (blk_below (g := gb283) (o := .cells #[.string a0_0, .string a0_1, .int .i64 a0_2, .int .i64 a0_3, .slice A0_4 l0_4.length c0_4, .slice A0_5 l0_5.length c0_5] 25 (0, 0)) (by (with_reducible repeat (first | refine blk_drewN ?_ _ | refine blk_drew ?_ | refine blk_alloc ?_ _)); exact BK283.out) hb)
      have n1_ := Aside0.mk (blk_below (g := gb284) (o := .cells #[.slice A2_0 l2_0.length c2_0, .string a2_1, .slice A2_2 l2_2.length c2_2, .int .i64 a2_3] 29 (0, 0)) (by (with_reducible repeat (first | refine blk_drewN ?_ _ | refine blk_drew ?_ | refine blk_alloc ?_ _)); exact BK284.out) hb)
      have n2_ := Aside0.mk (below_step (by repeat (first | (with_reducible first | exact HB.out | apply below_alloc | apply pw_below_drewN | apply below_drew1 | refine below_set ?_ GE283.out | refine below_set ?_ GE284.out) | exact HB.out)) hb)
      clear BK283
      clear BK284
      clear HB
      have BK283 := n0_
      have BK284 := n1_
      have HB := n2_
      clear n0_ n1_ n2_
      (try clear hb)
      (try clear hb2)
      (try clear hk)
      (try clear hi)
      go_wp2_with (go_at_call 19; (with_reducible refine (testamurref13_FewInstances.calls kj4 _ _ l1 true _ ?side1 ?side2 A13.out).mono ?_); (case side1 => repeat (first | exact (Kd.C_below HR1.out HB.out) | (with_reducible refine Kd.C_alloc ?_ _) | (with_reducible refine Kd.C_drewN ?_ _) | (with_reducible refine Kd.C_drew ?_))); (case side2 => exact HC1.out); refine Aside0.out (p := _) ?_)
      refine ⟨?_⟩
      rintro e w' ⟨rfl, ⟨nd, rfl⟩⟩
      have hcz18_0 : w17.cell? ⟨gb284, 0, none⟩ = some (.slice A2_0 l2_0.length c2_0) := (blk_cell BK284.out 0).trans rfl
      have hcz18_1 : w17.cell? ⟨gb284, 1, none⟩ = some (.string a2_1) := (blk_cell BK284.out 1).trans rfl
      have hcz18_2 : w17.cell? ⟨gb284, 2, none⟩ = some (.slice A2_2 l2_2.length c2_2) := (blk_cell BK284.out 2).trans rfl
      have hcz18_3 : w17.cell? ⟨gb284, 3, none⟩ = some (.int .i64 a2_3) := (blk_cell BK284.out 3).trans rfl
      have hfz18_0 := blk_frozen BK284.out 0
      have hfz18_1 := blk_frozen BK284.out 1
      have hfz18_2 := blk_frozen BK284.out 2
      have hfz18_3 := blk_frozen BK284.out 3
      go_wp2
      go_meet
      case rel => exact ⟨_, (decide ((l2_2.length : Int) > 30)), (by first | rfl | (simp; done) | (simp [*]; done)), H', ⟨by have := HJ4.out; first | omega | exact Nat.le_refl _⟩, ⟨by (with_reducible repeat (first | refine blk_drewN ?_ _ | refine blk_drew ?_ | refine blk_alloc ?_ _)); exact BK283.out⟩, ⟨by (with_reducible repeat (first | refine blk_drewN ?_ _ | refine blk_drew ?_ | refine blk_alloc ?_ _)); exact BK284.out⟩, ⟨by repeat (first | (with_reducible first | exact HB.out | apply below_alloc | apply pw_below_drewN | apply below_drew1 | refine below_set ?_ GE283.out | refine below_set ?_ GE284.out) | exact HB.out)⟩⟩
     ·replace c14 := Bool.eq_false_iff.mpr c14
      subst c14
      have H1 : (testamurlaw13_DependsSound.j1 kj4 l1 true a0_0 a0_1 a0_2 a0_3 l0_4 l0_5 l2_0 a2_1 l2_2 a2_3) = some r := by rw [if_neg (show ¬ (false = true) by decide)] at H; exact H
      clear H
      have H := H1
      clear H1
      have H' := Aside0.mk H
      clear H
      have hnb19 := NB283_284.out
      have hnc19 := NB284_283.out
      have hcz20_0 : wc.cell? ⟨gb283, 0, none⟩ = some (.string a0_0) := (blk_cell BK283.out 0).trans rfl
      have hcz20_1 : wc.cell? ⟨gb283, 1, none⟩ = some (.string a0_1) := (blk_cell BK283.out 1).trans rfl
      have hcz20_2 : wc.cell? ⟨gb283, 2, none⟩ = some (.int .i64 a0_2) := (blk_cell BK283.out 2).trans rfl
      have hcz20_3 : wc.cell? ⟨gb283, 3, none⟩ = some (.int .i64 a0_3) := (blk_cell BK283.out 3).trans rfl
      have hcz20_4 : wc.cell? ⟨gb283, 4, none⟩ = some (.slice A0_4 l0_4.length c0_4) := (blk_cell BK283.out 4).trans rfl
      have hcz20_5 : wc.cell? ⟨gb283, 5, none⟩ = some (.slice A0_5 l0_5.length c0_5) := (blk_cell BK283.out 5).trans rfl
      have hfz20_0 := blk_frozen BK283.out 0
      have hfz20_1 := blk_frozen BK283.out 1
      have hfz20_2 := blk_frozen BK283.out 2
      have hfz20_3 := blk_frozen BK283.out 3
      have hfz20_4 := blk_frozen BK283.out 4
      have hfz20_5 := blk_frozen BK283.out 5
      go_wp2_with ((with_reducible refine gate_callee (f := 11) rfl ?_); refine Aside0.out (p := _) ?_)
      refine ⟨?_⟩
      refine goesL_ (some 21) rfl rfl Try.func11 (by kernel_rfl) rfl #[.agg #[.string a0_0, .string a0_1, .int .i64 a0_2, .int .i64 a0_3, .slice A0_4 l0_4.length c0_4, .slice A0_5 l0_5.length c0_5]] rfl (by (try simp only [List.map_toArray, List.map_cons, List.map_nil]); first | done | rfl | (simp only [List.length_drop, List.length_take]; rfl)) ?_
      (with_reducible refine (testamurref13_Few.calls kj4 a0_0 a0_1 a0_2 a0_3 _ _ l0_4 _ _ l0_5 true _ ?side1 ?side2 ?side3 ?side4 A11.out).mono ?_)
      (case side1 => repeat (first | exact (Kd.C_below HR0_4.out HB.out) | (with_reducible refine Kd.C_alloc ?_ _) | (with_reducible refine Kd.C_drewN ?_ _) | (with_reducible refine Kd.C_drew ?_)))
      (case side2 => exact HC0_4.out)
      (case side3 => repeat (first | exact (Kd.C_below HR0_5.out HB.out) | (with_reducible refine Kd.C_alloc ?_ _) | (with_reducible refine Kd.C_drewN ?_ _) | (with_reducible refine Kd.C_drew ?_)))
      (case side4 => exact HC0_5.out)
      rintro e w21 ⟨rfl, hb⟩
      refine ⟨_, rfl, ?_⟩
      have n0_ := Aside0.mk (blk_below (g := gb283) (o := .cells #[.string a0_0, .string a0_1, .int .i64 a0_2, .int .i64 a0_3, .slice A0_4 l0_4.length c0_4, .slice A0_5 l0_5.length c0_5] 25 (0, 0)) (by (with_reducible repeat (first | refine blk_drewN ?_ _ | refine blk_drew ?_ | refine blk_alloc ?_ _)); exact BK283.out) hb)
      have n1_ := Aside0.mk (blk_below (g := gb284) (o := .cells #[.slice A2_0 l2_0.length c2_0, .string a2_1, .slice A2_2 l2_2.length c2_2, .int .i64 a2_3] 29 (0, 0)) (by (with_reducible repeat (first | refine blk_drewN ?_ _ | refine blk_drew ?_ | refine blk_alloc ?_ _)); exact BK284.out) hb)
      have n2_ := Aside0.mk (below_step (by repeat (first | (with_reducible first | exact HB.out | apply below_alloc | apply pw_below_drewN | apply below_drew1 | refine below_set ?_ GE283.out | refine below_set ?_ GE284.out) | exact HB.out)) hb)
      clear BK283
      clear BK284
      clear HB
      have BK283 := n0_
      have BK284 := n1_
      have HB := n2_
      clear n0_ n1_ n2_
      (try clear hb)
      (try clear hb2)
      (try clear hk)
      (try clear hi)
      go_wp2_with (go_at_call 19; (with_reducible refine (testamurref13_FewInstances.calls kj4 _ _ l1 false _ ?side1 ?side2 A13.out).mono ?_); (case side1 => repeat (first | exact (Kd.C_below HR1.out HB.out) | (with_reducible refine Kd.C_alloc ?_ _) | (with_reducible refine Kd.C_drewN ?_ _) | (with_reducible refine Kd.C_drew ?_))); (case side2 => exact HC1.out); refine Aside0.out (p := _) ?_)
      refine ⟨?_⟩
      rintro e w' ⟨rfl, ⟨nd, rfl⟩⟩
      go_wp2
      go_meet
      case rel => exact ⟨_, (true), (by first | rfl | (simp; done) | (simp [*]; done)), H', ⟨by have := HJ4.out; first | omega | exact Nat.le_refl _⟩, ⟨by (with_reducible repeat (first | refine blk_drewN ?_ _ | refine blk_drew ?_ | refine blk_alloc ?_ _)); exact BK283.out⟩, ⟨by (with_reducible repeat (first | refine blk_drewN ?_ _ | refine blk_drew ?_ | refine blk_alloc ?_ _)); exact BK284.out⟩, ⟨by repeat (first | (with_reducible first | exact HB.out | apply below_alloc | apply pw_below_drewN | apply below_drew1 | refine below_set ?_ GE283.out | refine below_set ?_ GE284.out) | exact HB.out)⟩⟩
    ·replace c12 := Bool.eq_false_iff.mpr c12
     subst c12
     have H1 : (testamurlaw13_DependsSound.j1 kj4 l1 true a0_0 a0_1 a0_2 a0_3 l0_4 l0_5 l2_0 a2_1 l2_2 a2_3) = some r := by rw [if_neg (show ¬ (false = true) by decide)] at H; exact H
     clear H
     have H := H1
     clear H1
     have H' := Aside0.mk H
     clear H
     have hnb22 := NB283_284.out
     have hnc22 := NB284_283.out
     have hcz23_0 : wc.cell? ⟨gb283, 0, none⟩ = some (.string a0_0) := (blk_cell BK283.out 0).trans rfl
     have hcz23_1 : wc.cell? ⟨gb283, 1, none⟩ = some (.string a0_1) := (blk_cell BK283.out 1).trans rfl
     have hcz23_2 : wc.cell? ⟨gb283, 2, none⟩ = some (.int .i64 a0_2) := (blk_cell BK283.out 2).trans rfl
     have hcz23_3 : wc.cell? ⟨gb283, 3, none⟩ = some (.int .i64 a0_3) := (blk_cell BK283.out 3).trans rfl
     have hcz23_4 : wc.cell? ⟨gb283, 4, none⟩ = some (.slice A0_4 l0_4.length c0_4) := (blk_cell BK283.out 4).trans rfl
     have hcz23_5 : wc.cell? ⟨gb283, 5, none⟩ = some (.slice A0_5 l0_5.length c0_5) := (blk_cell BK283.out 5).trans rfl
     have hfz23_0 := blk_frozen BK283.out 0
     have hfz23_1 := blk_frozen BK283.out 1
     have hfz23_2 := blk_frozen BK283.out 2
     have hfz23_3 := blk_frozen BK283.out 3
     have hfz23_4 := blk_frozen BK283.out 4
     have hfz23_5 := blk_frozen BK283.out 5
     go_wp2_with ((with_reducible refine gate_callee (f := 11) rfl ?_); refine Aside0.out (p := _) ?_)
     refine ⟨?_⟩
     refine goesL_ (some 21) rfl rfl Try.func11 (by kernel_rfl) rfl #[.agg #[.string a0_0, .string a0_1, .int .i64 a0_2, .int .i64 a0_3, .slice A0_4 l0_4.length c0_4, .slice A0_5 l0_5.length c0_5]] rfl (by (try simp only [List.map_toArray, List.map_cons, List.map_nil]); first | done | rfl | (simp only [List.length_drop, List.length_take]; rfl)) ?_
     (with_reducible refine (testamurref13_Few.calls kj4 a0_0 a0_1 a0_2 a0_3 _ _ l0_4 _ _ l0_5 false _ ?side1 ?side2 ?side3 ?side4 A11.out).mono ?_)
     (case side1 => repeat (first | exact (Kd.C_below HR0_4.out HB.out) | (with_reducible refine Kd.C_alloc ?_ _) | (with_reducible refine Kd.C_drewN ?_ _) | (with_reducible refine Kd.C_drew ?_)))
     (case side2 => exact HC0_4.out)
     (case side3 => repeat (first | exact (Kd.C_below HR0_5.out HB.out) | (with_reducible refine Kd.C_alloc ?_ _) | (with_reducible refine Kd.C_drewN ?_ _) | (with_reducible refine Kd.C_drew ?_)))
     (case side4 => exact HC0_5.out)
     rintro e w24 ⟨rfl, hb⟩
     refine ⟨_, rfl, ?_⟩
     have n0_ := Aside0.mk (blk_below (g := gb283) (o := .cells #[.string a0_0, .string a0_1, .int .i64 a0_2, .int .i64 a0_3, .slice A0_4 l0_4.length c0_4, .slice A0_5 l0_5.length c0_5] 25 (0, 0)) (by (with_reducible repeat (first | refine blk_drewN ?_ _ | refine blk_drew ?_ | refine blk_alloc ?_ _)); exact BK283.out) hb)
     have n1_ := Aside0.mk (blk_below (g := gb284) (o := .cells #[.slice A2_0 l2_0.length c2_0, .string a2_1, .slice A2_2 l2_2.length c2_2, .int .i64 a2_3] 29 (0, 0)) (by (with_reducible repeat (first | refine blk_drewN ?_ _ | refine blk_drew ?_ | refine blk_alloc ?_ _)); exact BK284.out) hb)
     have n2_ := Aside0.mk (below_step (by repeat (first | (with_reducible first | exact HB.out | apply below_alloc | apply pw_below_drewN | apply below_drew1 | refine below_set ?_ GE283.out | refine below_set ?_ GE284.out) | exact HB.out)) hb)
     clear BK283
     clear BK284
     clear HB
     have BK283 := n0_
     have BK284 := n1_
     have HB := n2_
     clear n0_ n1_ n2_
     (try clear hb)
     (try clear hb2)
     (try clear hk)
     (try clear hi)
     go_wp2
     go_meet
     case rel => exact ⟨_, (true), (by first | rfl | (simp; done) | (simp [*]; done)), H', ⟨by have := HJ4.out; first | omega | exact Nat.le_refl _⟩, ⟨by (with_reducible repeat (first | refine blk_drewN ?_ _ | refine blk_drew ?_ | refine blk_alloc ?_ _)); exact BK283.out⟩, ⟨by (with_reducible repeat (first | refine blk_drewN ?_ _ | refine blk_drew ?_ | refine blk_alloc ?_ _)); exact BK284.out⟩, ⟨by repeat (first | (with_reducible first | exact HB.out | apply below_alloc | apply pw_below_drewN | apply below_drew1 | refine below_set ?_ GE283.out | refine below_set ?_ GE284.out) | exact HB.out)⟩⟩
   case rest =>
    clear HC10
    try clear c1
    try clear c2
    try clear p2
    try clear c6
    try clear c9
    try clear c10
    try clear c11
    try clear c12
    try clear c14
    try clear c15
    try clear c19
    try clear c22
    try clear hcz16_0
    try clear hcz16_1
    try clear hcz16_2
    try clear hcz16_3
    try clear hcz16_4
    try clear hcz16_5
    try clear hcz18_0
    try clear hcz18_1
    try clear hcz18_2
    try clear hcz18_3
    try clear hcz20_0
    try clear hcz20_1
    try clear hcz20_2
    try clear hcz20_3
    try clear hcz20_4
    try clear hcz20_5
    try clear hcz23_0
    try clear hcz23_1
    try clear hcz23_2
    try clear hcz23_3
    try clear hcz23_4
    try clear hcz23_5
    try clear hfz16_0
    try clear hfz16_1
    try clear hfz16_2
    try clear hfz16_3
    try clear hfz16_4
    try clear hfz16_5
    try clear hfz18_0
    try clear hfz18_1
    try clear hfz18_2
    try clear hfz18_3
    try clear hfz20_0
    try clear hfz20_1
    try clear hfz20_2
    try clear hfz20_3
    try clear hfz20_4
    try clear hfz20_5
    try clear hfz23_0
    try clear hfz23_1
    try clear hfz23_2
    try clear hfz23_3
    try clear hfz23_4
    try clear hfz23_5
    try clear p2
    obtain ⟨kq, x33_9, rfl, HA, HJ9, BK283, BK284, HB⟩ := hcut
    cases kq with
    | zero => exact absurd HA.out (by simp [testamurlaw13_DependsSound.j1])
    | succ kj9 =>
     have H := HA.out
     clear HA
     simp only [testamurlaw13_DependsSound.j1] at H
     have HC25 := Aside0.mk H
     clear H
     go_upto_if 33 with (fail)
     go_cut [] (fun wc => ∃ (kq : Nat), Aside0 (testamurlaw13_DependsSound.j2 kq l1 a0_0 a0_1 a0_2 a0_3 l0_4 l0_5 l2_0 a2_1 l2_2 a2_3 = some r) ∧ Aside0 (kq ≤ kj9) ∧ Aside0 (wc.heap[gb283]? = some (.cells #[.string a0_0, .string a0_1, .int .i64 a0_2, .int .i64 a0_3, (.slice A0_4 l0_4.length c0_4), (.slice A0_5 l0_5.length c0_5)] 25 (0, 0))) ∧ Aside0 (wc.heap[gb284]? = some (.cells #[(.slice A2_0 l2_0.length c2_0), .string a2_1, (.slice A2_2 l2_2.length c2_2), .int .i64 a2_3] 29 (0, 0))) ∧ Aside0 (Below w.heap.size w wc))
     case first =>
      have H := HC25.out
      clear HC25
      by_cases c26 : x33_9 = true
      ·subst c26
       have H1 : (some true) = some r := by rw [if_pos rfl] at H; exact H
       clear H
       have H := H1
       clear H1
       obtain rfl := Option.some.inj H
       go_wp2
       go_ret
       exact ⟨by first | rfl | (simp [errW_none, errW_some] <;> rfl) | (simp [*, errW_none, errW_some] <;> rfl), by repeat (first | (with_reducible first | exact HB.out | apply below_alloc | apply pw_below_drewN | apply below_drew1 | refine below_set ?_ GE283.out | refine below_set ?_ GE284.out) | exact HB.out)⟩
      ·replace c26 := Bool.eq_false_iff.mpr c26
       subst c26
       have H1 : (testamurlaw13_DependsSound.j2 kj9 l1 a0_0 a0_1 a0_2 a0_3 l0_4 l0_5 l2_0 a2_1 l2_2 a2_3) = some r := by rw [if_neg (show ¬ (false = true) by decide)] at H; exact H
       clear H
       have H := H1
       clear H1
       have H' := Aside0.mk H
       clear H
       go_wp2
       go_meet
       case rel => exact ⟨_, H', ⟨by have := HJ4.out; have := HJ9.out; first | omega | exact Nat.le_refl _⟩, ⟨by (with_reducible repeat (first | refine blk_drewN ?_ _ | refine blk_drew ?_ | refine blk_alloc ?_ _)); exact BK283.out⟩, ⟨by (with_reducible repeat (first | refine blk_drewN ?_ _ | refine blk_drew ?_ | refine blk_alloc ?_ _)); exact BK284.out⟩, ⟨by repeat (first | (with_reducible first | exact HB.out | apply below_alloc | apply pw_below_drewN | apply below_drew1 | refine below_set ?_ GE283.out | refine below_set ?_ GE284.out) | exact HB.out)⟩⟩
     case rest =>
      clear HC25
      try clear c1
      try clear c2
      try clear p2
      try clear c6
      try clear c9
      try clear c10
      try clear c11
      try clear c12
      try clear c14
      try clear c15
      try clear c19
      try clear c22
      try clear c26
      try clear hcz16_0
      try clear hcz16_1
      try clear hcz16_2
      try clear hcz16_3
      try clear hcz16_4
      try clear hcz16_5
      try clear hcz18_0
      try clear hcz18_1
      try clear hcz18_2
      try clear hcz18_3
      try clear hcz20_0
      try clear hcz20_1
      try clear hcz20_2
      try clear hcz20_3
      try clear hcz20_4
      try clear hcz20_5
      try clear hcz23_0
      try clear hcz23_1
      try clear hcz23_2
      try clear hcz23_3
      try clear hcz23_4
      try clear hcz23_5
      try clear hfz16_0
      try clear hfz16_1
      try clear hfz16_2
      try clear hfz16_3
      try clear hfz16_4
      try clear hfz16_5
      try clear hfz18_0
      try clear hfz18_1
      try clear hfz18_2
      try clear hfz18_3
      try clear hfz20_0
      try clear hfz20_1
      try clear hfz20_2
      try clear hfz20_3
      try clear hfz20_4
      try clear hfz20_5
      try clear hfz23_0
      try clear hfz23_1
      try clear hfz23_2
      try clear hfz23_3
      try clear hfz23_4
      try clear hfz23_5
      try clear p2
      obtain ⟨kq, HA, HJ24, BK283, BK284, HB⟩ := hcut
      cases kq with
      | zero => exact absurd HA.out (by simp [testamurlaw13_DependsSound.j2])
      | succ kj24 =>
       have H := HA.out
       clear HA
       simp only [testamurlaw13_DependsSound.j2] at H
       replace H := Option.bind_eq_some_iff.mp H
       obtain ⟨⟨t288, t289, t290, t291, t292⟩, A270, H⟩ := H
       replace H : ((depends_Implied.f kj24 a0_0 a0_1 a0_2 a0_3 l0_4 l0_5 l2_0 a2_1 l2_2 a2_3).bind fun bt293 => (if t292 = 0 then (if bt293.2 = 0 then (if t291 = true then (testamurlaw13_DependsSound.j3 kj24 l1 true l2_0 a2_1 l2_2 a2_3) else (testamurlaw13_DependsSound.j3 kj24 l1 (!bt293.1) l2_0 a2_1 l2_2 a2_3)) else (testamurlaw13_DependsSound.j3 kj24 l1 true l2_0 a2_1 l2_2 a2_3)) else (testamurlaw13_DependsSound.j3 kj24 l1 true l2_0 a2_1 l2_2 a2_3))) = some r := H
       have A27 := Aside0.mk A270
       clear A270
       replace H := Option.bind_eq_some_iff.mp H
       obtain ⟨⟨t293, t294⟩, A280, H⟩ := H
       replace H : (if t292 = 0 then (if t294 = 0 then (if t291 = true then (testamurlaw13_DependsSound.j3 kj24 l1 true l2_0 a2_1 l2_2 a2_3) else (testamurlaw13_DependsSound.j3 kj24 l1 (!t293) l2_0 a2_1 l2_2 a2_3)) else (testamurlaw13_DependsSound.j3 kj24 l1 true l2_0 a2_1 l2_2 a2_3)) else (testamurlaw13_DependsSound.j3 kj24 l1 true l2_0 a2_1 l2_2 a2_3)) = some r := H
       have A28 := Aside0.mk A280
       clear A280
       have HC29 := Aside0.mk H
       clear H
       have hnb30 := NB283_284.out
       have hnc30 := NB284_283.out
       have hcz31_0 : wc.cell? ⟨gb283, 0, none⟩ = some (.string a0_0) := (blk_cell BK283.out 0).trans rfl
       have hcz31_1 : wc.cell? ⟨gb283, 1, none⟩ = some (.string a0_1) := (blk_cell BK283.out 1).trans rfl
       have hcz31_2 : wc.cell? ⟨gb283, 2, none⟩ = some (.int .i64 a0_2) := (blk_cell BK283.out 2).trans rfl
       have hcz31_3 : wc.cell? ⟨gb283, 3, none⟩ = some (.int .i64 a0_3) := (blk_cell BK283.out 3).trans rfl
       have hcz31_4 : wc.cell? ⟨gb283, 4, none⟩ = some (.slice A0_4 l0_4.length c0_4) := (blk_cell BK283.out 4).trans rfl
       have hcz31_5 : wc.cell? ⟨gb283, 5, none⟩ = some (.slice A0_5 l0_5.length c0_5) := (blk_cell BK283.out 5).trans rfl
       have hfz31_0 := blk_frozen BK283.out 0
       have hfz31_1 := blk_frozen BK283.out 1
       have hfz31_2 := blk_frozen BK283.out 2
       have hfz31_3 := blk_frozen BK283.out 3
       have hfz31_4 := blk_frozen BK283.out 4
       have hfz31_5 := blk_frozen BK283.out 5
       go_upto_region 7 with (first | ((with_reducible refine gate_callee (f := 20) rfl ?_); refine goesL_ (some 37) rfl rfl Try.func20 (by kernel_rfl) rfl #[.agg #[.string a0_0, .string a0_1, .int .i64 a0_2, .int .i64 a0_3, .slice A0_4 l0_4.length c0_4, .slice A0_5 l0_5.length c0_5], .slice A1 l1.length c1] rfl (by (try simp only [List.map_toArray, List.map_cons, List.map_nil]); first | done | rfl | (simp only [List.length_drop, List.length_take]; rfl)) ?_; (with_reducible refine (depends_Broken.calls a0_0 a0_1 a0_2 a0_3 _ _ l0_4 _ _ l0_5 _ _ l1 t288 t289 t290 t291 t292 _ ?side1 ?side2 ?side3 ?side4 ?side5 ?side6 A27.out).mono ?_); (case side1 => repeat (first | exact (Kd.C_below HR0_4.out HB.out) | (with_reducible refine Kd.C_alloc ?_ _) | (with_reducible refine Kd.C_drewN ?_ _) | (with_reducible refine Kd.C_drew ?_))); (case side2 => exact HC0_4.out); (case side3 => repeat (first | exact (Kd.C_below HR0_5.out HB.out) | (with_reducible refine Kd.C_alloc ?_ _) | (with_reducible refine Kd.C_drewN ?_ _) | (with_reducible refine Kd.C_drew ?_))); (case side4 => exact HC0_5.out); (case side5 => repeat (first | exact (Kd.C_below HR1.out HB.out) | (with_reducible refine Kd.C_alloc ?_ _) | (with_reducible refine Kd.C_drewN ?_ _) | (with_reducible refine Kd.C_drew ?_))); (case side6 => exact HC1.out); rintro e w32 ⟨rfl, hb⟩; refine ⟨_, rfl, ?_⟩; have n0_ := Aside0.mk (blk_below (g := gb283) (o := .cells #[.string a0_0, .string a0_1, .int .i64 a0_2, .int .i64 a0_3, .slice A0_4 l0_4.length c0_4, .slice A0_5 l0_5.length c0_5] 25 (0, 0)) (by (with_reducible repeat (first | refine blk_drewN ?_ _ | refine blk_drew ?_ | refine blk_alloc ?_ _)); exact BK283.out) hb); have n1_ := Aside0.mk (blk_below (g := gb284) (o := .cells #[.slice A2_0 l2_0.length c2_0, .string a2_1, .slice A2_2 l2_2.length c2_2, .int .i64 a2_3] 29 (0, 0)) (by (with_reducible repeat (first | refine blk_drewN ?_ _ | refine blk_drew ?_ | refine blk_alloc ?_ _)); exact BK284.out) hb); have n2_ := Aside0.mk (below_step (by repeat (first | (with_reducible first | exact HB.out | apply below_alloc | apply pw_below_drewN | apply below_drew1 | refine below_set ?_ GE283.out | refine below_set ?_ GE284.out) | exact HB.out)) hb); clear BK283; clear BK284; clear HB; have BK283 := n0_; have BK284 := n1_; have HB := n2_; clear n0_ n1_ n2_; (try clear hb); (try clear hb2); (try clear hk); (try clear hi); have hcz33_0 : w32.cell? ⟨gb283, 0, none⟩ = some (.string a0_0) := (blk_cell BK283.out 0).trans rfl; have hcz33_1 : w32.cell? ⟨gb283, 1, none⟩ = some (.string a0_1) := (blk_cell BK283.out 1).trans rfl; have hcz33_2 : w32.cell? ⟨gb283, 2, none⟩ = some (.int .i64 a0_2) := (blk_cell BK283.out 2).trans rfl; have hcz33_3 : w32.cell? ⟨gb283, 3, none⟩ = some (.int .i64 a0_3) := (blk_cell BK283.out 3).trans rfl; have hcz33_4 : w32.cell? ⟨gb283, 4, none⟩ = some (.slice A0_4 l0_4.length c0_4) := (blk_cell BK283.out 4).trans rfl; have hcz33_5 : w32.cell? ⟨gb283, 5, none⟩ = some (.slice A0_5 l0_5.length c0_5) := (blk_cell BK283.out 5).trans rfl; have hfz33_0 := blk_frozen BK283.out 0; have hfz33_1 := blk_frozen BK283.out 1; have hfz33_2 := blk_frozen BK283.out 2; have hfz33_3 := blk_frozen BK283.out 3; have hfz33_4 := blk_frozen BK283.out 4; have hfz33_5 := blk_frozen BK283.out 5; have hcz34_0 : w32.cell? ⟨gb284, 0, none⟩ = some (.slice A2_0 l2_0.length c2_0) := (blk_cell BK284.out 0).trans rfl; have hcz34_1 : w32.cell? ⟨gb284, 1, none⟩ = some (.string a2_1) := (blk_cell BK284.out 1).trans rfl; have hcz34_2 : w32.cell? ⟨gb284, 2, none⟩ = some (.slice A2_2 l2_2.length c2_2) := (blk_cell BK284.out 2).trans rfl; have hcz34_3 : w32.cell? ⟨gb284, 3, none⟩ = some (.int .i64 a2_3) := (blk_cell BK284.out 3).trans rfl; have hfz34_0 := blk_frozen BK284.out 0; have hfz34_1 := blk_frozen BK284.out 1; have hfz34_2 := blk_frozen BK284.out 2; have hfz34_3 := blk_frozen BK284.out 3) | ((with_reducible refine gate_callee (f := 14) rfl ?_); refine goesL_ (some 46) rfl rfl Try.func14 (by kernel_rfl) rfl #[.agg #[.string a0_0, .string a0_1, .int .i64 a0_2, .int .i64 a0_3, .slice A0_4 l0_4.length c0_4, .slice A0_5 l0_5.length c0_5], .agg #[.slice A2_0 l2_0.length c2_0, .string a2_1, .slice A2_2 l2_2.length c2_2, .int .i64 a2_3]] rfl (by (try simp only [List.map_toArray, List.map_cons, List.map_nil]); first | done | rfl | (simp only [List.length_drop, List.length_take]; rfl)) ?_; (with_reducible refine (depends_Implied.calls kj24 a0_0 a0_1 a0_2 a0_3 _ _ l0_4 _ _ l0_5 _ _ l2_0 a2_1 _ _ l2_2 a2_3 t293 t294 _ ?side1 ?side2 ?side3 ?side4 ?side5 ?side6 ?side7 ?side8 A28.out).mono ?_); (case side1 => repeat (first | exact (Kd.C_below HR0_4.out HB.out) | (with_reducible refine Kd.C_alloc ?_ _) | (with_reducible refine Kd.C_drewN ?_ _) | (with_reducible refine Kd.C_drew ?_))); (case side2 => exact HC0_4.out); (case side3 => repeat (first | exact (Kd.C_below HR0_5.out HB.out) | (with_reducible refine Kd.C_alloc ?_ _) | (with_reducible refine Kd.C_drewN ?_ _) | (with_reducible refine Kd.C_drew ?_))); (case side4 => exact HC0_5.out); (case side5 => repeat (first | exact (Kd.C_below HR2_0.out HB.out) | (with_reducible refine Kd.C_alloc ?_ _) | (with_reducible refine Kd.C_drewN ?_ _) | (with_reducible refine Kd.C_drew ?_))); (case side6 => exact HC2_0.out); (case side7 => repeat (first | exact (Kd.C_below HR2_2.out HB.out) | (with_reducible refine Kd.C_alloc ?_ _) | (with_reducible refine Kd.C_drewN ?_ _) | (with_reducible refine Kd.C_drew ?_))); (case side8 => exact HC2_2.out); rintro e w35 ⟨rfl, hb⟩; refine ⟨_, rfl, ?_⟩; have n0_ := Aside0.mk (blk_below (g := gb283) (o := .cells #[.string a0_0, .string a0_1, .int .i64 a0_2, .int .i64 a0_3, .slice A0_4 l0_4.length c0_4, .slice A0_5 l0_5.length c0_5] 25 (0, 0)) (by (with_reducible repeat (first | refine blk_drewN ?_ _ | refine blk_drew ?_ | refine blk_alloc ?_ _)); exact BK283.out) hb); have n1_ := Aside0.mk (blk_below (g := gb284) (o := .cells #[.slice A2_0 l2_0.length c2_0, .string a2_1, .slice A2_2 l2_2.length c2_2, .int .i64 a2_3] 29 (0, 0)) (by (with_reducible repeat (first | refine blk_drewN ?_ _ | refine blk_drew ?_ | refine blk_alloc ?_ _)); exact BK284.out) hb); have n2_ := Aside0.mk (below_step (by repeat (first | (with_reducible first | exact HB.out | apply below_alloc | apply pw_below_drewN | apply below_drew1 | refine below_set ?_ GE283.out | refine below_set ?_ GE284.out) | exact HB.out)) hb); clear BK283; clear BK284; clear HB; have BK283 := n0_; have BK284 := n1_; have HB := n2_; clear n0_ n1_ n2_; (try clear hb); (try clear hb2); (try clear hk); (try clear hi)))
       (try simp only [Act.put, List.setIfInBounds_toArray, List.set_cons_zero, List.set_cons_succ])
       go_cut [61] (fun v61 wc => ∃ (kq : Nat) (x61_28 : Bool), v61 = .bool x61_28 ∧ Aside0 (testamurlaw13_DependsSound.j3 kq l1 x61_28 l2_0 a2_1 l2_2 a2_3 = some r) ∧ Aside0 (kq ≤ kj24) ∧ Aside0 (wc.heap[gb283]? = some (.cells #[.string a0_0, .string a0_1, .int .i64 a0_2, .int .i64 a0_3, (.slice A0_4 l0_4.length c0_4), (.slice A0_5 l0_5.length c0_5)] 25 (0, 0))) ∧ Aside0 (wc.heap[gb284]? = some (.cells #[(.slice A2_0 l2_0.length c2_0), .string a2_1, (.slice A2_2 l2_2.length c2_2), .int .i64 a2_3] 29 (0, 0))) ∧ Aside0 (Below w.heap.size w wc))
       case first =>
        have H := HC29.out
        clear HC29
        by_cases c36 : t292 = 0
        ·rw [if_pos c36] at H
         have c36b0 : (t292 == 0) = true := beq_iff_eq.mpr c36
         have c36b1 : (t292 != 0) = false := bne_eq_false_iff_eq.mpr c36
         clear c36
         (first | rw [c36b0] | (simp only [i64_w, i32_w]; rw [c36b0]) | skip)
         by_cases c37 : t294 = 0
         ·rw [if_pos c37] at H
          have c37b0 : (t294 == 0) = true := beq_iff_eq.mpr c37
          have c37b1 : (t294 != 0) = false := bne_eq_false_iff_eq.mpr c37
          clear c37
          by_cases c38 : t291 = true
          ·subst c38
           have H1 : (testamurlaw13_DependsSound.j3 kj24 l1 true l2_0 a2_1 l2_2 a2_3) = some r := by rw [if_pos rfl] at H; exact H
           clear H
           have H := H1
           clear H1
           have H' := Aside0.mk H
           clear H
           go_wp2
           go_meet
           case rel => exact ⟨_, (true), (by first | rfl | (simp; done) | (simp [*]; done)), H', ⟨by have := HJ4.out; have := HJ9.out; have := HJ24.out; first | omega | exact Nat.le_refl _⟩, ⟨by (with_reducible repeat (first | refine blk_drewN ?_ _ | refine blk_drew ?_ | refine blk_alloc ?_ _)); exact BK283.out⟩, ⟨by (with_reducible repeat (first | refine blk_drewN ?_ _ | refine blk_drew ?_ | refine blk_alloc ?_ _)); exact BK284.out⟩, ⟨by repeat (first | (with_reducible first | exact HB.out | apply below_alloc | apply pw_below_drewN | apply below_drew1 | refine below_set ?_ GE283.out | refine below_set ?_ GE284.out) | exact HB.out)⟩⟩
          ·replace c38 := Bool.eq_false_iff.mpr c38
           subst c38
           have H1 : (testamurlaw13_DependsSound.j3 kj24 l1 (!t293) l2_0 a2_1 l2_2 a2_3) = some r := by rw [if_neg (show ¬ (false = true) by decide)] at H; exact H
           clear H
           have H := H1
           clear H1
           have H' := Aside0.mk H
           clear H
           go_wp2
           go_meet
           case rel => exact ⟨_, (!t293), (by first | rfl | (simp; done) | (simp [*]; done)), H', ⟨by have := HJ4.out; have := HJ9.out; have := HJ24.out; first | omega | exact Nat.le_refl _⟩, ⟨by (with_reducible repeat (first | refine blk_drewN ?_ _ | refine blk_drew ?_ | refine blk_alloc ?_ _)); exact BK283.out⟩, ⟨by (with_reducible repeat (first | refine blk_drewN ?_ _ | refine blk_drew ?_ | refine blk_alloc ?_ _)); exact BK284.out⟩, ⟨by repeat (first | (with_reducible first | exact HB.out | apply below_alloc | apply pw_below_drewN | apply below_drew1 | refine below_set ?_ GE283.out | refine below_set ?_ GE284.out) | exact HB.out)⟩⟩
         ·rw [if_neg c37] at H
          have c37b0 : (t294 == 0) = false := beq_eq_false_iff_ne.mpr c37
          have c37b1 : (t294 != 0) = true := bne_iff_ne.mpr c37
          have H' := Aside0.mk H
          clear H
          go_wp2
          go_meet
          case rel => exact ⟨_, (true), (by first | rfl | (simp; done) | (simp [*]; done)), H', ⟨by have := HJ4.out; have := HJ9.out; have := HJ24.out; first | omega | exact Nat.le_refl _⟩, ⟨by (with_reducible repeat (first | refine blk_drewN ?_ _ | refine blk_drew ?_ | refine blk_alloc ?_ _)); exact BK283.out⟩, ⟨by (with_reducible repeat (first | refine blk_drewN ?_ _ | refine blk_drew ?_ | refine blk_alloc ?_ _)); exact BK284.out⟩, ⟨by repeat (first | (with_reducible first | exact HB.out | apply below_alloc | apply pw_below_drewN | apply below_drew1 | refine below_set ?_ GE283.out | refine below_set ?_ GE284.out) | exact HB.out)⟩⟩
        ·rw [if_neg c36] at H
         have c36b0 : (t292 == 0) = false := beq_eq_false_iff_ne.mpr c36
         have c36b1 : (t292 != 0) = true := bne_iff_ne.mpr c36
         (first | rw [c36b0] | (simp only [i64_w, i32_w]; rw [c36b0]) | skip)
         have H' := Aside0.mk H
         clear H
         go_wp2
         go_meet
         case rel => exact ⟨_, (true), (by first | rfl | (simp; done) | (simp [*]; done)), H', ⟨by have := HJ4.out; have := HJ9.out; have := HJ24.out; first | omega | exact Nat.le_refl _⟩, ⟨by (with_reducible repeat (first | refine blk_drewN ?_ _ | refine blk_drew ?_ | refine blk_alloc ?_ _)); exact BK283.out⟩, ⟨by (with_reducible repeat (first | refine blk_drewN ?_ _ | refine blk_drew ?_ | refine blk_alloc ?_ _)); exact BK284.out⟩, ⟨by repeat (first | (with_reducible first | exact HB.out | apply below_alloc | apply pw_below_drewN | apply below_drew1 | refine below_set ?_ GE283.out | refine below_set ?_ GE284.out) | exact HB.out)⟩⟩
       case rest =>
        clear HC29
        try clear c1
        try clear c2
        try clear p2
        try clear c3
        try clear c6
        try clear c9
        try clear c10
        try clear c11
        try clear c12
        try clear c14
        try clear c15
        try clear c19
        try clear c20
        try clear c22
        try clear c26
        try clear c30
        try clear c36
        try clear c36b0
        try clear c36b1
        try clear c37
        try clear c37b0
        try clear c37b1
        try clear c38
        try clear hcz16_0
        try clear hcz16_1
        try clear hcz16_2
        try clear hcz16_3
        try clear hcz16_4
        try clear hcz16_5
        try clear hcz18_0
        try clear hcz18_1
        try clear hcz18_2
        try clear hcz18_3
        try clear hcz20_0
        try clear hcz20_1
        try clear hcz20_2
        try clear hcz20_3
        try clear hcz20_4
        try clear hcz20_5
        try clear hcz23_0
        try clear hcz23_1
        try clear hcz23_2
        try clear hcz23_3
        try clear hcz23_4
        try clear hcz23_5
        try clear hcz31_0
        try clear hcz31_1
        try clear hcz31_2
        try clear hcz31_3
        try clear hcz31_4
        try clear hcz31_5
        try clear hcz33_0
        try clear hcz33_1
        try clear hcz33_2
        try clear hcz33_3
        try clear hcz33_4
        try clear hcz33_5
        try clear hcz34_0
        try clear hcz34_1
        try clear hcz34_2
        try clear hcz34_3
        try clear hfz16_0
        try clear hfz16_1
        try clear hfz16_2
        try clear hfz16_3
        try clear hfz16_4
        try clear hfz16_5
        try clear hfz18_0
        try clear hfz18_1
        try clear hfz18_2
        try clear hfz18_3
        try clear hfz20_0
        try clear hfz20_1
        try clear hfz20_2
        try clear hfz20_3
        try clear hfz20_4
        try clear hfz20_5
        try clear hfz23_0
        try clear hfz23_1
        try clear hfz23_2
        try clear hfz23_3
        try clear hfz23_4
        try clear hfz23_5
        try clear hfz31_0
        try clear hfz31_1
        try clear hfz31_2
        try clear hfz31_3
        try clear hfz31_4
        try clear hfz31_5
        try clear hfz33_0
        try clear hfz33_1
        try clear hfz33_2
        try clear hfz33_3
        try clear hfz33_4
        try clear hfz33_5
        try clear hfz34_0
        try clear hfz34_1
        try clear hfz34_2
        try clear hfz34_3
        try clear p2
        obtain ⟨kq, x61_28, rfl, HA, HJ28, BK283, BK284, HB⟩ := hcut
        cases kq with
        | zero => exact absurd HA.out (by simp [testamurlaw13_DependsSound.j3])
        | succ kj28 =>
         have H := HA.out
         clear HA
         simp only [testamurlaw13_DependsSound.j3] at H
         have HC39 := Aside0.mk H
         clear H
         go_upto_if 61 with (fail)
         go_cut [] (fun wc => ∃ (kq : Nat), Aside0 (testamurlaw13_DependsSound.j4 kq l1 l2_0 a2_1 l2_2 a2_3 = some r) ∧ Aside0 (kq ≤ kj28) ∧ Aside0 (wc.heap[gb283]? = some (.cells #[.string a0_0, .string a0_1, .int .i64 a0_2, .int .i64 a0_3, (.slice A0_4 l0_4.length c0_4), (.slice A0_5 l0_5.length c0_5)] 25 (0, 0))) ∧ Aside0 (wc.heap[gb284]? = some (.cells #[(.slice A2_0 l2_0.length c2_0), .string a2_1, (.slice A2_2 l2_2.length c2_2), .int .i64 a2_3] 29 (0, 0))) ∧ Aside0 (Below w.heap.size w wc))
         case first =>
          have H := HC39.out
          clear HC39
          by_cases c40 : x61_28 = true
          ·subst c40
           have H1 : (some true) = some r := by rw [if_pos rfl] at H; exact H
           clear H
           have H := H1
           clear H1
           obtain rfl := Option.some.inj H
           go_wp2
           go_ret
           exact ⟨by first | rfl | (simp [errW_none, errW_some] <;> rfl) | (simp [*, errW_none, errW_some] <;> rfl), by repeat (first | (with_reducible first | exact HB.out | apply below_alloc | apply pw_below_drewN | apply below_drew1 | refine below_set ?_ GE283.out | refine below_set ?_ GE284.out) | exact HB.out)⟩
          ·replace c40 := Bool.eq_false_iff.mpr c40
           subst c40
           have H1 : (testamurlaw13_DependsSound.j4 kj28 l1 l2_0 a2_1 l2_2 a2_3) = some r := by rw [if_neg (show ¬ (false = true) by decide)] at H; exact H
           clear H
           have H := H1
           clear H1
           have H' := Aside0.mk H
           clear H
           go_wp2
           go_meet
           case rel => exact ⟨_, H', ⟨by have := HJ4.out; have := HJ9.out; have := HJ24.out; have := HJ28.out; first | omega | exact Nat.le_refl _⟩, ⟨by (with_reducible repeat (first | refine blk_drewN ?_ _ | refine blk_drew ?_ | refine blk_alloc ?_ _)); exact BK283.out⟩, ⟨by (with_reducible repeat (first | refine blk_drewN ?_ _ | refine blk_drew ?_ | refine blk_alloc ?_ _)); exact BK284.out⟩, ⟨by repeat (first | (with_reducible first | exact HB.out | apply below_alloc | apply pw_below_drewN | apply below_drew1 | refine below_set ?_ GE283.out | refine below_set ?_ GE284.out) | exact HB.out)⟩⟩
         case rest =>
          clear HC39
          try clear c1
          try clear c2
          try clear p2
          try clear c3
          try clear c4
          try clear c6
          try clear c9
          try clear c10
          try clear c11
          try clear c12
          try clear c14
          try clear c15
          try clear c19
          try clear c20
          try clear c22
          try clear c26
          try clear c30
          try clear c36
          try clear c36b0
          try clear c36b1
          try clear c37
          try clear c37b0
          try clear c37b1
          try clear c38
          try clear c40
          try clear hcz16_0
          try clear hcz16_1
          try clear hcz16_2
          try clear hcz16_3
          try clear hcz16_4
          try clear hcz16_5
          try clear hcz18_0
          try clear hcz18_1
          try clear hcz18_2
          try clear hcz18_3
          try clear hcz20_0
          try clear hcz20_1
          try clear hcz20_2
          try clear hcz20_3
          try clear hcz20_4
          try clear hcz20_5
          try clear hcz23_0
          try clear hcz23_1
          try clear hcz23_2
          try clear hcz23_3
          try clear hcz23_4
          try clear hcz23_5
          try clear hcz31_0
          try clear hcz31_1
          try clear hcz31_2
          try clear hcz31_3
          try clear hcz31_4
          try clear hcz31_5
          try clear hcz33_0
          try clear hcz33_1
          try clear hcz33_2
          try clear hcz33_3
          try clear hcz33_4
          try clear hcz33_5
          try clear hcz34_0
          try clear hcz34_1
          try clear hcz34_2
          try clear hcz34_3
          try clear hfz16_0
          try clear hfz16_1
          try clear hfz16_2
          try clear hfz16_3
          try clear hfz16_4
          try clear hfz16_5
          try clear hfz18_0
          try clear hfz18_1
          try clear hfz18_2
          try clear hfz18_3
          try clear hfz20_0
          try clear hfz20_1
          try clear hfz20_2
          try clear hfz20_3
          try clear hfz20_4
          try clear hfz20_5
          try clear hfz23_0
          try clear hfz23_1
          try clear hfz23_2
          try clear hfz23_3
          try clear hfz23_4
          try clear hfz23_5
          try clear hfz31_0
          try clear hfz31_1
          try clear hfz31_2
          try clear hfz31_3
          try clear hfz31_4
          try clear hfz31_5
          try clear hfz33_0
          try clear hfz33_1
          try clear hfz33_2
          try clear hfz33_3
          try clear hfz33_4
          try clear hfz33_5
          try clear hfz34_0
          try clear hfz34_1
          try clear hfz34_2
          try clear hfz34_3
          try clear p2
          obtain ⟨kq, HA, HJ38, BK283, BK284, HB⟩ := hcut
          cases kq with
          | zero => exact absurd HA.out (by simp [testamurlaw13_DependsSound.j4])
          | succ kj38 =>
           have H := HA.out
           clear HA
           simp only [testamurlaw13_DependsSound.j4] at H
           have H' := Aside0.mk H
           clear H
           go_wp2
           go_loopg [64] kj38 (fun kq v64 w' => ∃ (x64_6 : Int), v64 = .int .i64 x64_6 ∧ Aside0 (testamurlaw13_DependsSound.l0 kq l1 l1 (l1.length : Int) x64_6 l2_0 a2_1 l2_2 a2_3 = some r) ∧ Aside0 (kq ≤ kj38) ∧ Aside0 (w'.heap[gb283]? = some (.cells #[.string a0_0, .string a0_1, .int .i64 a0_2, .int .i64 a0_3, (.slice A0_4 l0_4.length c0_4), (.slice A0_5 l0_5.length c0_5)] 25 (0, 0))) ∧ Aside0 (w'.heap[gb284]? = some (.cells #[(.slice A2_0 l2_0.length c2_0), .string a2_1, (.slice A2_2 l2_2.length c2_2), .int .i64 a2_3] 29 (0, 0))) ∧ Aside0 (Below w.heap.size w w'))
           case atStart => exact ⟨(0), (by first | rfl | (simp; done) | (simp [*]; done)), H', ⟨Nat.le_refl _⟩, ⟨by (with_reducible repeat (first | refine blk_drewN ?_ _ | refine blk_drew ?_ | refine blk_alloc ?_ _)); exact BK283.out⟩, ⟨by (with_reducible repeat (first | refine blk_drewN ?_ _ | refine blk_drew ?_ | refine blk_alloc ?_ _)); exact BK284.out⟩, ⟨by repeat (first | (with_reducible first | exact HB.out | apply below_alloc | apply pw_below_drewN | apply below_drew1 | refine below_set ?_ GE283.out | refine below_set ?_ GE284.out) | exact HB.out)⟩⟩
           case round =>
            clear H'
            try clear c1
            try clear c2
            try clear p2
            try clear c3
            try clear c4
            try clear c6
            try clear c9
            try clear c10
            try clear c11
            try clear c12
            try clear c14
            try clear c15
            try clear c19
            try clear c20
            try clear c22
            try clear c26
            try clear c30
            try clear c36
            try clear c36b0
            try clear c36b1
            try clear c37
            try clear c37b0
            try clear c37b1
            try clear c38
            try clear c40
            try clear hcz16_0
            try clear hcz16_1
            try clear hcz16_2
            try clear hcz16_3
            try clear hcz16_4
            try clear hcz16_5
            try clear hcz18_0
            try clear hcz18_1
            try clear hcz18_2
            try clear hcz18_3
            try clear hcz20_0
            try clear hcz20_1
            try clear hcz20_2
            try clear hcz20_3
            try clear hcz20_4
            try clear hcz20_5
            try clear hcz23_0
            try clear hcz23_1
            try clear hcz23_2
            try clear hcz23_3
            try clear hcz23_4
            try clear hcz23_5
            try clear hcz31_0
            try clear hcz31_1
            try clear hcz31_2
            try clear hcz31_3
            try clear hcz31_4
            try clear hcz31_5
            try clear hcz33_0
            try clear hcz33_1
            try clear hcz33_2
            try clear hcz33_3
            try clear hcz33_4
            try clear hcz33_5
            try clear hcz34_0
            try clear hcz34_1
            try clear hcz34_2
            try clear hcz34_3
            try clear hfz16_0
            try clear hfz16_1
            try clear hfz16_2
            try clear hfz16_3
            try clear hfz16_4
            try clear hfz16_5
            try clear hfz18_0
            try clear hfz18_1
            try clear hfz18_2
            try clear hfz18_3
            try clear hfz20_0
            try clear hfz20_1
            try clear hfz20_2
            try clear hfz20_3
            try clear hfz20_4
            try clear hfz20_5
            try clear hfz23_0
            try clear hfz23_1
            try clear hfz23_2
            try clear hfz23_3
            try clear hfz23_4
            try clear hfz23_5
            try clear hfz31_0
            try clear hfz31_1
            try clear hfz31_2
            try clear hfz31_3
            try clear hfz31_4
            try clear hfz31_5
            try clear hfz33_0
            try clear hfz33_1
            try clear hfz33_2
            try clear hfz33_3
            try clear hfz33_4
            try clear hfz33_5
            try clear hfz34_0
            try clear hfz34_1
            try clear hfz34_2
            try clear hfz34_3
            try clear p2
            obtain ⟨x64_6, rfl, HA, HK6, BK283, BK284, HB⟩ := hrel
            cases gk with
            | zero => exact absurd HA.out (by simp [testamurlaw13_DependsSound.l0])
            | succ k6 =>
             have H := HA.out
             clear HA
             simp only [testamurlaw13_DependsSound.l0] at H
             have HC41 := Aside0.mk H
             clear H
             go_upto_if 65 with (fail)
             go_cut [] (fun wc => ∃ (kq : Nat), Aside0 (testamurlaw13_DependsSound.j6 kq l1 l1 (l1.length : Int) x64_6 l2_0 a2_1 l2_2 a2_3 = some r) ∧ Aside0 (kq ≤ k6) ∧ Aside0 (wc.heap[gb283]? = some (.cells #[.string a0_0, .string a0_1, .int .i64 a0_2, .int .i64 a0_3, (.slice A0_4 l0_4.length c0_4), (.slice A0_5 l0_5.length c0_5)] 25 (0, 0))) ∧ Aside0 (wc.heap[gb284]? = some (.cells #[(.slice A2_0 l2_0.length c2_0), .string a2_1, (.slice A2_2 l2_2.length c2_2), .int .i64 a2_3] 29 (0, 0))) ∧ Aside0 (Below w.heap.size w wc))
             case first =>
              have H := HC41.out
              clear HC41
              by_cases c42 : x64_6 < (l1.length : Int)
              ·rw [if_pos c42] at H
               have c42b0 : decide (x64_6 < (l1.length : Int)) = true := decide_eq_true c42
               clear c42
               (first | rw [c42b0] | (simp only [i64_w, i32_w]; rw [c42b0]) | skip)
               have H' := Aside0.mk H
               clear H
               go_wp2
               go_meet
               case rel => exact ⟨_, H', ⟨by have := HJ4.out; have := HJ9.out; have := HJ24.out; have := HJ28.out; have := HJ38.out; have := HK6.out; first | omega | exact Nat.le_refl _⟩, ⟨by (with_reducible repeat (first | refine blk_drewN ?_ _ | refine blk_drew ?_ | refine blk_alloc ?_ _)); exact BK283.out⟩, ⟨by (with_reducible repeat (first | refine blk_drewN ?_ _ | refine blk_drew ?_ | refine blk_alloc ?_ _)); exact BK284.out⟩, ⟨by repeat (first | (with_reducible first | exact HB.out | apply below_alloc | apply pw_below_drewN | apply below_drew1 | refine below_set ?_ GE283.out | refine below_set ?_ GE284.out) | exact HB.out)⟩⟩
              ·rw [if_neg c42] at H
               have c42b0 : decide (x64_6 < (l1.length : Int)) = false := decide_eq_false c42
               clear c42
               (first | rw [c42b0] | (simp only [i64_w, i32_w]; rw [c42b0]) | skip)
               obtain rfl := Option.some.inj H
               go_wp2
               go_ret
               exact ⟨by first | rfl | (simp [errW_none, errW_some] <;> rfl) | (simp [*, errW_none, errW_some] <;> rfl), by repeat (first | (with_reducible first | exact HB.out | apply below_alloc | apply pw_below_drewN | apply below_drew1 | refine below_set ?_ GE283.out | refine below_set ?_ GE284.out) | exact HB.out)⟩
             case rest =>
              clear HC41
              try clear c1
              try clear c2
              try clear p2
              try clear c3
              try clear c4
              try clear c6
              try clear c9
              try clear c10
              try clear c11
              try clear c12
              try clear c14
              try clear c15
              try clear c19
              try clear c20
              try clear c22
              try clear c26
              try clear c30
              try clear c36
              try clear c36b0
              try clear c36b1
              try clear c37
              try clear c37b0
              try clear c37b1
              try clear c38
              try clear c40
              try clear c42
              try clear c42b0
              try clear hcz16_0
              try clear hcz16_1
              try clear hcz16_2
              try clear hcz16_3
              try clear hcz16_4
              try clear hcz16_5
              try clear hcz18_0
              try clear hcz18_1
              try clear hcz18_2
              try clear hcz18_3
              try clear hcz20_0
              try clear hcz20_1
              try clear hcz20_2
              try clear hcz20_3
              try clear hcz20_4
              try clear hcz20_5
              try clear hcz23_0
              try clear hcz23_1
              try clear hcz23_2
              try clear hcz23_3
              try clear hcz23_4
              try clear hcz23_5
              try clear hcz31_0
              try clear hcz31_1
              try clear hcz31_2
              try clear hcz31_3
              try clear hcz31_4
              try clear hcz31_5
              try clear hcz33_0
              try clear hcz33_1
              try clear hcz33_2
              try clear hcz33_3
              try clear hcz33_4
              try clear hcz33_5
              try clear hcz34_0
              try clear hcz34_1
              try clear hcz34_2
              try clear hcz34_3
              try clear hfz16_0
              try clear hfz16_1
              try clear hfz16_2
              try clear hfz16_3
              try clear hfz16_4
              try clear hfz16_5
              try clear hfz18_0
              try clear hfz18_1
              try clear hfz18_2
              try clear hfz18_3
              try clear hfz20_0
              try clear hfz20_1
              try clear hfz20_2
              try clear hfz20_3
              try clear hfz20_4
              try clear hfz20_5
              try clear hfz23_0
              try clear hfz23_1
              try clear hfz23_2
              try clear hfz23_3
              try clear hfz23_4
              try clear hfz23_5
              try clear hfz31_0
              try clear hfz31_1
              try clear hfz31_2
              try clear hfz31_3
              try clear hfz31_4
              try clear hfz31_5
              try clear hfz33_0
              try clear hfz33_1
              try clear hfz33_2
              try clear hfz33_3
              try clear hfz33_4
              try clear hfz33_5
              try clear hfz34_0
              try clear hfz34_1
              try clear hfz34_2
              try clear hfz34_3
              try clear p2
              obtain ⟨kq, HA, HJ40, BK283, BK284, HB⟩ := hcut
              cases kq with
              | zero => exact absurd HA.out (by simp [testamurlaw13_DependsSound.j6])
              | succ kj40 =>
               have H := HA.out
               clear HA
               simp only [testamurlaw13_DependsSound.j6] at H
               by_cases c43 : 0 ≤ x64_6
               ·rw [if_pos c43] at H
                have c43b0 : decide (0 ≤ x64_6) = true := decide_eq_true c43
                clear c43
                by_cases c44 : x64_6 < (l1.length : Int)
                ·rw [if_pos c44] at H
                 have c44b0 : decide (x64_6 < (l1.length : Int)) = true := decide_eq_true c44
                 clear c44
                 have c45b0 := eq_true (of_decide_eq_true (by first | (with_reducible assumption) | assumption) : 0 ≤ x64_6)
                 by_cases c46 : x64_6 ≤ (l1.length : Int)
                 ·rw [if_pos c46] at H
                  have c46b0 := eq_true c46
                  have c46b1 : decide (x64_6 ≤ (l1.length : Int)) = true := decide_eq_true c46
                  clear c46
                  obtain ⟨y299, hy299⟩ : ∃ y_ : List (S49), y_ = (l1.take (x64_6 : Int).toNat) := ⟨_, rfl⟩
                  replace H : (testamurlaw13_DependsSound.l1 kj40 l1 l1 (l1.length : Int) x64_6 y299 (y299.length : Int) 0 l2_0 a2_1 l2_2 a2_3 ((rd_T49 l1 x64_6).f0) ((rd_T49 l1 x64_6).f1) ((rd_T49 l1 x64_6).f2) ((rd_T49 l1 x64_6).f3)) = some r := by first | (rw [hy299]; with_reducible exact H) | (have H2_ := (Option.bind_some _ _).symm.trans H; rw [hy299]; with_reducible exact H2_) | (have H2_ := (Option.bind_some _ _).symm.trans H; with_reducible exact H2_) | with_reducible exact H | (rw [hy299]; exact H) | exact H
                  have Ny299 := Aside0.mk hy299
                  clear hy299
                  have H' := Aside0.mk H
                  clear H
                  have p297 : 0 ≤ (x64_6 : Int) := of_decide_eq_true (by first | (with_reducible assumption) | assumption)
                  have q297 : x64_6 < (l1.length : Int) := of_decide_eq_true (by first | (with_reducible assumption) | assumption)
                  obtain ⟨ad297, A297_3, c297_3, e297, hx297_0, hx297_1, hx297_2, hx297_3, hl297_3, hi297_3⟩ := at_T49 HR1.out x64_6 p297 q297
                  cases e297
                  replace hx297_0 := (HB.out.cell (World.block_lt_of_cell? w _ hx297_0)).trans hx297_0
                  replace hx297_1 := (HB.out.cell (World.block_lt_of_cell? w _ hx297_1)).trans hx297_1
                  replace hx297_2 := (HB.out.cell (World.block_lt_of_cell? w _ hx297_2)).trans hx297_2
                  replace hx297_3 := (HB.out.cell (World.block_lt_of_cell? w _ hx297_3)).trans hx297_3
                  have HR297_3 := Aside0.mk hi297_3
                  have HC297_3 := Aside0.mk hl297_3
                  clear hi297_3 hl297_3
                  replace p297 := eq_true p297
                  replace q297 := eq_true q297
                  go_wp2_with ((with_reducible refine gate_dst (N := 15) rfl ?_); (try (refine gate_guard (by rfl) ?_; dsimp only)); refine Aside0.out (p := _) ?_)
                  refine ⟨?_⟩
                  refine box_event ?hg (N := 15) ?hd (cs := #[.int .i64 0, .int .i64 0, .int .i64 0, .slice none 0 0]) (t := 49) ?hr ?_; (case hd => rfl); (case hg => rfl); (case hr => first | (go_simp; done) | (go_simp; rfl))
                  intro gb298 hg w47 hbox hb
                  have n0_ := Aside0.mk (blk_below (g := gb283) (o := .cells #[.string a0_0, .string a0_1, .int .i64 a0_2, .int .i64 a0_3, .slice A0_4 l0_4.length c0_4, .slice A0_5 l0_5.length c0_5] 25 (0, 0)) (by (with_reducible repeat (first | refine blk_drewN ?_ _ | refine blk_drew ?_ | refine blk_alloc ?_ _)); exact BK283.out) hb)
                  have n1_ := Aside0.mk (blk_below (g := gb284) (o := .cells #[.slice A2_0 l2_0.length c2_0, .string a2_1, .slice A2_2 l2_2.length c2_2, .int .i64 a2_3] 29 (0, 0)) (by (with_reducible repeat (first | refine blk_drewN ?_ _ | refine blk_drew ?_ | refine blk_alloc ?_ _)); exact BK284.out) hb)
                  have n2_ := Aside0.mk (below_step (by repeat (first | (with_reducible first | exact HB.out | apply below_alloc | apply pw_below_drewN | apply below_drew1 | refine below_set ?_ GE283.out | refine below_set ?_ GE284.out) | exact HB.out)) hb)
                  have n3_ := Aside0.mk (hbox)
                  have n4_ := Aside0.mk ((by rw [hg]; exact (below_size (by repeat (first | (with_reducible first | exact HB.out | apply below_alloc | apply pw_below_drewN | apply below_drew1 | refine below_set ?_ GE283.out | refine below_set ?_ GE284.out) | exact HB.out))) : w.heap.size ≤ gb298))
                  have n5_ := Aside0.mk ((by rw [hg]; exact (below_size (by repeat (first | (with_reducible first | exact HB.out | apply below_alloc | apply pw_below_drewN | apply below_drew1 | refine below_set ?_ GE283.out | refine below_set ?_ GE284.out) | exact HB.out))) : w.heap.size ≤ gb298))
                  have n6_ := Aside0.mk ((by rw [hg]; exact Nat.ne_of_lt (blk_lt (g := gb283) (o := .cells #[.string a0_0, .string a0_1, .int .i64 a0_2, .int .i64 a0_3, .slice A0_4 l0_4.length c0_4, .slice A0_5 l0_5.length c0_5] 25 (0, 0)) (by (with_reducible repeat (first | refine blk_drewN ?_ _ | refine blk_drew ?_ | refine blk_alloc ?_ _)); exact BK283.out)) : gb283 ≠ gb298))
                  have n7_ := Aside0.mk ((by rw [hg]; exact Nat.ne_of_gt (blk_lt (g := gb283) (o := .cells #[.string a0_0, .string a0_1, .int .i64 a0_2, .int .i64 a0_3, .slice A0_4 l0_4.length c0_4, .slice A0_5 l0_5.length c0_5] 25 (0, 0)) (by (with_reducible repeat (first | refine blk_drewN ?_ _ | refine blk_drew ?_ | refine blk_alloc ?_ _)); exact BK283.out)) : gb298 ≠ gb283))
                  have n8_ := Aside0.mk ((by rw [hg]; exact Nat.ne_of_lt (blk_lt (g := gb284) (o := .cells #[.slice A2_0 l2_0.length c2_0, .string a2_1, .slice A2_2 l2_2.length c2_2, .int .i64 a2_3] 29 (0, 0)) (by (with_reducible repeat (first | refine blk_drewN ?_ _ | refine blk_drew ?_ | refine blk_alloc ?_ _)); exact BK284.out)) : gb284 ≠ gb298))
                  have n9_ := Aside0.mk ((by rw [hg]; exact Nat.ne_of_gt (blk_lt (g := gb284) (o := .cells #[.slice A2_0 l2_0.length c2_0, .string a2_1, .slice A2_2 l2_2.length c2_2, .int .i64 a2_3] 29 (0, 0)) (by (with_reducible repeat (first | refine blk_drewN ?_ _ | refine blk_drew ?_ | refine blk_alloc ?_ _)); exact BK284.out)) : gb298 ≠ gb284))
                  clear BK283
                  clear BK284
                  clear HB
                  have BK283 := n0_
                  have BK284 := n1_
                  have HB := n2_
                  have BK298 := n3_
                  have GW298 := n4_
                  have GE298 := n5_
                  have NB283_298 := n6_
                  have NB298_283 := n7_
                  have NB284_298 := n8_
                  have NB298_284 := n9_
                  clear n0_ n1_ n2_ n3_ n4_ n5_ n6_ n7_ n8_ n9_
                  clear hb hbox hg
                  have hnb48 := NB298_283.out
                  have hnc48 := NB283_298.out
                  have hnb49 := NB298_284.out
                  have hnc49 := NB284_298.out
                  have hcz50_0 : w47.cell? ⟨gb298, 0, none⟩ = some (.int .i64 0) := (blk_cell BK298.out 0).trans rfl
                  have hcz50_1 : w47.cell? ⟨gb298, 1, none⟩ = some (.int .i64 0) := (blk_cell BK298.out 1).trans rfl
                  have hcz50_2 : w47.cell? ⟨gb298, 2, none⟩ = some (.int .i64 0) := (blk_cell BK298.out 2).trans rfl
                  have hcz50_3 : w47.cell? ⟨gb298, 3, none⟩ = some (.slice none 0 0) := (blk_cell BK298.out 3).trans rfl
                  have hfz50_0 := blk_frozen BK298.out 0
                  have hfz50_1 := blk_frozen BK298.out 1
                  have hfz50_2 := blk_frozen BK298.out 2
                  have hfz50_3 := blk_frozen BK298.out 3
                  go_wp2_with ((with_reducible refine gate_store (t := 49) (p := 15) rfl ?_); refine Aside0.out (p := _) ?_)
                  refine ⟨?_⟩
                  refine store_event (t := 49) (p := 15) (v := ?vo_w51) (w1 := ((((w47.setCell ⟨gb298, 0, none⟩ (.int .i64 ((rd_T49 l1 x64_6).f0))).setCell ⟨gb298, 1, none⟩ (.int .i64 ((rd_T49 l1 x64_6).f1))).setCell ⟨gb298, 2, none⟩ (.int .i64 ((rd_T49 l1 x64_6).f2))).setCell ⟨gb298, 3, none⟩ (.slice A297_3 ((rd_T49 l1 x64_6).f3).length c297_3))) ?hg ?ho ?hn ?hr ?_; (case ho => rfl); (case hg => rfl); (case hn => rfl); (case hr => first | (go_simp; done) | (go_simp; rfl))
                  intro w51 hw
                  have n0_ : Aside0 (w51.heap[gb283]? = some (.cells #[.string a0_0, .string a0_1, .int .i64 a0_2, .int .i64 a0_3, .slice A0_4 l0_4.length c0_4, .slice A0_5 l0_5.length c0_5] 25 (0, 0))) := ⟨(by rw [hw]; exact (by (with_reducible repeat (first | refine blk_drewN ?_ _ | refine blk_drew ?_ | refine blk_alloc ?_ _)); refine blk_far ?_ NB283_298.out _; (with_reducible repeat (first | refine blk_drewN ?_ _ | refine blk_drew ?_ | refine blk_alloc ?_ _)); refine blk_far ?_ NB283_298.out _; (with_reducible repeat (first | refine blk_drewN ?_ _ | refine blk_drew ?_ | refine blk_alloc ?_ _)); refine blk_far ?_ NB283_298.out _; (with_reducible repeat (first | refine blk_drewN ?_ _ | refine blk_drew ?_ | refine blk_alloc ?_ _)); refine blk_far ?_ NB283_298.out _; (with_reducible repeat (first | refine blk_drewN ?_ _ | refine blk_drew ?_ | refine blk_alloc ?_ _)); exact BK283.out))⟩
                  have n1_ : Aside0 (w51.heap[gb284]? = some (.cells #[.slice A2_0 l2_0.length c2_0, .string a2_1, .slice A2_2 l2_2.length c2_2, .int .i64 a2_3] 29 (0, 0))) := ⟨(by rw [hw]; exact (by (with_reducible repeat (first | refine blk_drewN ?_ _ | refine blk_drew ?_ | refine blk_alloc ?_ _)); refine blk_far ?_ NB284_298.out _; (with_reducible repeat (first | refine blk_drewN ?_ _ | refine blk_drew ?_ | refine blk_alloc ?_ _)); refine blk_far ?_ NB284_298.out _; (with_reducible repeat (first | refine blk_drewN ?_ _ | refine blk_drew ?_ | refine blk_alloc ?_ _)); refine blk_far ?_ NB284_298.out _; (with_reducible repeat (first | refine blk_drewN ?_ _ | refine blk_drew ?_ | refine blk_alloc ?_ _)); refine blk_far ?_ NB284_298.out _; (with_reducible repeat (first | refine blk_drewN ?_ _ | refine blk_drew ?_ | refine blk_alloc ?_ _)); exact BK284.out))⟩
                  have n2_ : Aside0 (w51.heap[gb298]? = some (.cells #[.int .i64 ((rd_T49 l1 x64_6).f0), .int .i64 ((rd_T49 l1 x64_6).f1), .int .i64 ((rd_T49 l1 x64_6).f2), .slice A297_3 ((rd_T49 l1 x64_6).f3).length c297_3] 49 (0, 0))) := ⟨(by rw [hw]; exact (by (with_reducible repeat (first | refine blk_drewN ?_ _ | refine blk_drew ?_ | refine blk_alloc ?_ _)); refine blk_put (cs := #[.int .i64 ((rd_T49 l1 x64_6).f0), .int .i64 ((rd_T49 l1 x64_6).f1), .int .i64 ((rd_T49 l1 x64_6).f2), .slice none 0 0]) ?_ 3 _ rfl; (with_reducible repeat (first | refine blk_drewN ?_ _ | refine blk_drew ?_ | refine blk_alloc ?_ _)); refine blk_put (cs := #[.int .i64 ((rd_T49 l1 x64_6).f0), .int .i64 ((rd_T49 l1 x64_6).f1), .int .i64 0, .slice none 0 0]) ?_ 2 _ rfl; (with_reducible repeat (first | refine blk_drewN ?_ _ | refine blk_drew ?_ | refine blk_alloc ?_ _)); refine blk_put (cs := #[.int .i64 ((rd_T49 l1 x64_6).f0), .int .i64 0, .int .i64 0, .slice none 0 0]) ?_ 1 _ rfl; (with_reducible repeat (first | refine blk_drewN ?_ _ | refine blk_drew ?_ | refine blk_alloc ?_ _)); refine blk_put (cs := #[.int .i64 0, .int .i64 0, .int .i64 0, .slice none 0 0]) ?_ 0 _ rfl; (with_reducible repeat (first | refine blk_drewN ?_ _ | refine blk_drew ?_ | refine blk_alloc ?_ _)); exact BK298.out))⟩
                  have n3_ : Aside0 (Below w.heap.size w w51) := ⟨(by rw [hw]; exact (by repeat (first | (with_reducible first | exact HB.out | apply below_alloc | apply pw_below_drewN | apply below_drew1 | refine below_set ?_ GE283.out | refine below_set ?_ GE284.out | refine below_set ?_ GE298.out) | exact HB.out)))⟩
                  clear hw
                  clear BK283
                  clear BK284
                  clear BK298
                  clear HB
                  have BK283 := n0_
                  have BK284 := n1_
                  have BK298 := n2_
                  have HB := n3_
                  clear n0_ n1_ n2_ n3_
                  have q52 : (x64_6 : Int) ≤ ((l1.length : Int) : Int) := of_decide_eq_true (by first | (with_reducible assumption) | assumption)
                  obtain ⟨i052, hi052, _, hsz52, _⟩ := info_parts info49
                  have hroom52 : l1.length ≤ c1 := HC1.out
                  have hC52 : Kd.C k49 _ (some ad297) l1.length l1 := HR1.out
                  have hcut52 := cut_to (P := Try.prog) 40 49 .i64 Try.underlying40 hi052 (some ad297) l1.length c1 x64_6 (of_decide_eq_true (by first | (with_reducible assumption) | assumption)) q52 hroom52
                  have hr52 := Kd.C_take (m := (x64_6 : Int).toNat) hC52 (by omega)
                  have hy52 : y299.length = (x64_6 : Int).toNat := (by rw [Ny299.out, List.length_take]; omega)
                  rw [← Ny299.out] at hr52
                  rw [← hy52] at hcut52
                  have HR302 := Aside0.mk hr52
                  have HC302 := Aside0.mk (show y299.length ≤ c1 from by omega)
                  clear hr52 hC52 hroom52 hi052 hsz52
                  have KY52 := Aside0.mk hy52
                  clear hy52
                  replace q52 := eq_true q52
                  go_wp2
                  go_loopg [73] kj40 (fun kq v73 w' => ∃ (x73_8 : Int), v73 = .int .i64 x73_8 ∧ Aside0 (testamurlaw13_DependsSound.l1 kq l1 l1 (l1.length : Int) x64_6 y299 (y299.length : Int) x73_8 l2_0 a2_1 l2_2 a2_3 ((rd_T49 l1 x64_6).f0) ((rd_T49 l1 x64_6).f1) ((rd_T49 l1 x64_6).f2) ((rd_T49 l1 x64_6).f3) = some r) ∧ Aside0 (kq ≤ kj40) ∧ Aside0 (w'.heap[gb283]? = some (.cells #[.string a0_0, .string a0_1, .int .i64 a0_2, .int .i64 a0_3, (.slice A0_4 l0_4.length c0_4), (.slice A0_5 l0_5.length c0_5)] 25 (0, 0))) ∧ Aside0 (w'.heap[gb284]? = some (.cells #[(.slice A2_0 l2_0.length c2_0), .string a2_1, (.slice A2_2 l2_2.length c2_2), .int .i64 a2_3] 29 (0, 0))) ∧ Aside0 (w'.heap[gb298]? = some (.cells #[.int .i64 ((rd_T49 l1 x64_6).f0), .int .i64 ((rd_T49 l1 x64_6).f1), .int .i64 ((rd_T49 l1 x64_6).f2), (.slice A297_3 ((rd_T49 l1 x64_6).f3).length c297_3)] 49 (0, 0))) ∧ Aside0 (Below w.heap.size w w'))
                  case atStart => exact ⟨(0), (by first | rfl | (simp; done) | (simp [*]; done)), H', ⟨Nat.le_refl _⟩, ⟨by (with_reducible repeat (first | refine blk_drewN ?_ _ | refine blk_drew ?_ | refine blk_alloc ?_ _)); exact BK283.out⟩, ⟨by (with_reducible repeat (first | refine blk_drewN ?_ _ | refine blk_drew ?_ | refine blk_alloc ?_ _)); exact BK284.out⟩, ⟨by (with_reducible repeat (first | refine blk_drewN ?_ _ | refine blk_drew ?_ | refine blk_alloc ?_ _)); exact BK298.out⟩, ⟨by repeat (first | (with_reducible first | exact HB.out | apply below_alloc | apply pw_below_drewN | apply below_drew1 | refine below_set ?_ GE283.out | refine below_set ?_ GE284.out | refine below_set ?_ GE298.out) | exact HB.out)⟩⟩
                  case round =>
                   clear H'
                   try clear c1
                   try clear c2
                   try clear p2
                   try clear q2
                   try clear hx2
                   try clear c3
                   try clear c4
                   try clear q5
                   try clear c6
                   try clear c9
                   try clear c10
                   try clear c11
                   try clear c12
                   try clear c14
                   try clear c15
                   try clear c19
                   try clear c20
                   try clear c22
                   try clear c26
                   try clear c29
                   try clear p29
                   try clear q29
                   try clear hx29
                   try clear c30
                   try clear c36
                   try clear c36b0
                   try clear c36b1
                   try clear c37
                   try clear c37b0
                   try clear c37b1
                   try clear c38
                   try clear c40
                   try clear c42
                   try clear c42b0
                   try clear c43
                   try clear c43b0
                   try clear c44
                   try clear c44b0
                   try clear c45
                   try clear c45b0
                   try clear c46
                   try clear c46b0
                   try clear c46b1
                   try clear c48
                   try clear c49
                   try clear q52
                   try clear hcz16_0
                   try clear hcz16_1
                   try clear hcz16_2
                   try clear hcz16_3
                   try clear hcz16_4
                   try clear hcz16_5
                   try clear hcz18_0
                   try clear hcz18_1
                   try clear hcz18_2
                   try clear hcz18_3
                   try clear hcz20_0
                   try clear hcz20_1
                   try clear hcz20_2
                   try clear hcz20_3
                   try clear hcz20_4
                   try clear hcz20_5
                   try clear hcz23_0
                   try clear hcz23_1
                   try clear hcz23_2
                   try clear hcz23_3
                   try clear hcz23_4
                   try clear hcz23_5
                   try clear hcz31_0
                   try clear hcz31_1
                   try clear hcz31_2
                   try clear hcz31_3
                   try clear hcz31_4
                   try clear hcz31_5
                   try clear hcz33_0
                   try clear hcz33_1
                   try clear hcz33_2
                   try clear hcz33_3
                   try clear hcz33_4
                   try clear hcz33_5
                   try clear hcz34_0
                   try clear hcz34_1
                   try clear hcz34_2
                   try clear hcz34_3
                   try clear hcz50_0
                   try clear hcz50_1
                   try clear hcz50_2
                   try clear hcz50_3
                   try clear hfz16_0
                   try clear hfz16_1
                   try clear hfz16_2
                   try clear hfz16_3
                   try clear hfz16_4
                   try clear hfz16_5
                   try clear hfz18_0
                   try clear hfz18_1
                   try clear hfz18_2
                   try clear hfz18_3
                   try clear hfz20_0
                   try clear hfz20_1
                   try clear hfz20_2
                   try clear hfz20_3
                   try clear hfz20_4
                   try clear hfz20_5
                   try clear hfz23_0
                   try clear hfz23_1
                   try clear hfz23_2
                   try clear hfz23_3
                   try clear hfz23_4
                   try clear hfz23_5
                   try clear hfz31_0
                   try clear hfz31_1
                   try clear hfz31_2
                   try clear hfz31_3
                   try clear hfz31_4
                   try clear hfz31_5
                   try clear hfz33_0
                   try clear hfz33_1
                   try clear hfz33_2
                   try clear hfz33_3
                   try clear hfz33_4
                   try clear hfz33_5
                   try clear hfz34_0
                   try clear hfz34_1
                   try clear hfz34_2
                   try clear hfz34_3
                   try clear hfz50_0
                   try clear hfz50_1
                   try clear hfz50_2
                   try clear hfz50_3
                   try clear hx297_0
                   try clear hx297_1
                   try clear hx297_2
                   try clear hx297_3
                   try clear p2
                   try clear p297
                   try clear q297
                   try clear q52
                   obtain ⟨x73_8, rfl, HA, HK8, BK283, BK284, BK298, HB⟩ := hrel
                   cases gk with
                   | zero => exact absurd HA.out (by simp [testamurlaw13_DependsSound.l1])
                   | succ k8 =>
                    have H := HA.out
                    clear HA
                    simp only [testamurlaw13_DependsSound.l1] at H
                    by_cases c53 : x73_8 < (y299.length : Int)
                    ·rw [if_pos c53] at H
                     have c53b0 : decide (x73_8 < (y299.length : Int)) = true := decide_eq_true c53
                     clear c53
                     by_cases c54 : 0 ≤ x73_8
                     ·rw [if_pos c54] at H
                      have c54b0 : decide (0 ≤ x73_8) = true := decide_eq_true c54
                      clear c54
                      by_cases c55 : x73_8 < (y299.length : Int)
                      ·rw [if_pos c55] at H
                       have c55b0 : decide (x73_8 < (y299.length : Int)) = true := decide_eq_true c55
                       clear c55
                       replace H := Option.bind_eq_some_iff.mp H
                       obtain ⟨t307, A560, H⟩ := H
                       replace H : (if t307 = true then (some false) else (testamurlaw13_DependsSound.l1 k8 l1 l1 (l1.length : Int) x64_6 y299 (y299.length : Int) (wrap64 (x73_8 + 1)) l2_0 a2_1 l2_2 a2_3 ((rd_T49 l1 x64_6).f0) ((rd_T49 l1 x64_6).f1) ((rd_T49 l1 x64_6).f2) ((rd_T49 l1 x64_6).f3))) = some r := H
                       have A56 := Aside0.mk A560
                       clear A560
                       by_cases c57 : t307 = true
                       ·subst c57
                        have H1 : (some false) = some r := by rw [if_pos rfl] at H; exact H
                        clear H
                        have H := H1
                        clear H1
                        obtain rfl := Option.some.inj H
                        have p305 : 0 ≤ (x73_8 : Int) := of_decide_eq_true (by first | (with_reducible assumption) | assumption)
                        have q305 : x73_8 < (y299.length : Int) := of_decide_eq_true (by first | (with_reducible assumption) | assumption)
                        obtain ⟨ad305, A305_3, c305_3, e305, hx305_0, hx305_1, hx305_2, hx305_3, hl305_3, hi305_3⟩ := at_T49 HR302.out x73_8 p305 q305
                        obtain rfl : ad297 = ad305 := (by injection e305)
                        replace hx305_0 := (HB.out.cell (World.block_lt_of_cell? w _ hx305_0)).trans hx305_0
                        replace hx305_1 := (HB.out.cell (World.block_lt_of_cell? w _ hx305_1)).trans hx305_1
                        replace hx305_2 := (HB.out.cell (World.block_lt_of_cell? w _ hx305_2)).trans hx305_2
                        replace hx305_3 := (HB.out.cell (World.block_lt_of_cell? w _ hx305_3)).trans hx305_3
                        have HR305_3 := Aside0.mk hi305_3
                        have HC305_3 := Aside0.mk hl305_3
                        clear hi305_3 hl305_3
                        replace p305 := eq_true p305
                        replace q305 := eq_true q305
                        go_wp2_with ((with_reducible refine gate_dst (N := 17) rfl ?_); (try (refine gate_guard (by rfl) ?_; dsimp only)); refine Aside0.out (p := _) ?_)
                        refine ⟨?_⟩
                        refine box_event ?hg (N := 17) ?hd (cs := #[.int .i64 0, .int .i64 0, .int .i64 0, .slice none 0 0]) (t := 49) ?hr ?_; (case hd => rfl); (case hg => rfl); (case hr => first | (go_simp; done) | (go_simp; rfl))
                        intro gb306 hg w58 hbox hb
                        have n0_ := Aside0.mk (blk_below (g := gb283) (o := .cells #[.string a0_0, .string a0_1, .int .i64 a0_2, .int .i64 a0_3, .slice A0_4 l0_4.length c0_4, .slice A0_5 l0_5.length c0_5] 25 (0, 0)) (by (with_reducible repeat (first | refine blk_drewN ?_ _ | refine blk_drew ?_ | refine blk_alloc ?_ _)); exact BK283.out) hb)
                        have n1_ := Aside0.mk (blk_below (g := gb284) (o := .cells #[.slice A2_0 l2_0.length c2_0, .string a2_1, .slice A2_2 l2_2.length c2_2, .int .i64 a2_3] 29 (0, 0)) (by (with_reducible repeat (first | refine blk_drewN ?_ _ | refine blk_drew ?_ | refine blk_alloc ?_ _)); exact BK284.out) hb)
                        have n2_ := Aside0.mk (blk_below (g := gb298) (o := .cells #[.int .i64 ((rd_T49 l1 x64_6).f0), .int .i64 ((rd_T49 l1 x64_6).f1), .int .i64 ((rd_T49 l1 x64_6).f2), .slice A297_3 ((rd_T49 l1 x64_6).f3).length c297_3] 49 (0, 0)) (by (with_reducible repeat (first | refine blk_drewN ?_ _ | refine blk_drew ?_ | refine blk_alloc ?_ _)); exact BK298.out) hb)
                        have n3_ := Aside0.mk (below_step (by repeat (first | (with_reducible first | exact HB.out | apply below_alloc | apply pw_below_drewN | apply below_drew1 | refine below_set ?_ GE283.out | refine below_set ?_ GE284.out | refine below_set ?_ GE298.out) | exact HB.out)) hb)
                        have n4_ := Aside0.mk (hbox)
                        have n5_ := Aside0.mk ((by rw [hg]; exact (below_size (by repeat (first | (with_reducible first | exact HB.out | apply below_alloc | apply pw_below_drewN | apply below_drew1 | refine below_set ?_ GE283.out | refine below_set ?_ GE284.out | refine below_set ?_ GE298.out) | exact HB.out))) : w.heap.size ≤ gb306))
                        have n6_ := Aside0.mk ((by rw [hg]; exact (below_size (by repeat (first | (with_reducible first | exact HB.out | apply below_alloc | apply pw_below_drewN | apply below_drew1 | refine below_set ?_ GE283.out | refine below_set ?_ GE284.out | refine below_set ?_ GE298.out) | exact HB.out))) : w.heap.size ≤ gb306))
                        have n7_ := Aside0.mk ((by rw [hg]; exact Nat.ne_of_lt (blk_lt (g := gb283) (o := .cells #[.string a0_0, .string a0_1, .int .i64 a0_2, .int .i64 a0_3, .slice A0_4 l0_4.length c0_4, .slice A0_5 l0_5.length c0_5] 25 (0, 0)) (by (with_reducible repeat (first | refine blk_drewN ?_ _ | refine blk_drew ?_ | refine blk_alloc ?_ _)); exact BK283.out)) : gb283 ≠ gb306))
                        have n8_ := Aside0.mk ((by rw [hg]; exact Nat.ne_of_gt (blk_lt (g := gb283) (o := .cells #[.string a0_0, .string a0_1, .int .i64 a0_2, .int .i64 a0_3, .slice A0_4 l0_4.length c0_4, .slice A0_5 l0_5.length c0_5] 25 (0, 0)) (by (with_reducible repeat (first | refine blk_drewN ?_ _ | refine blk_drew ?_ | refine blk_alloc ?_ _)); exact BK283.out)) : gb306 ≠ gb283))
                        have n9_ := Aside0.mk ((by rw [hg]; exact Nat.ne_of_lt (blk_lt (g := gb284) (o := .cells #[.slice A2_0 l2_0.length c2_0, .string a2_1, .slice A2_2 l2_2.length c2_2, .int .i64 a2_3] 29 (0, 0)) (by (with_reducible repeat (first | refine blk_drewN ?_ _ | refine blk_drew ?_ | refine blk_alloc ?_ _)); exact BK284.out)) : gb284 ≠ gb306))
                        have n10_ := Aside0.mk ((by rw [hg]; exact Nat.ne_of_gt (blk_lt (g := gb284) (o := .cells #[.slice A2_0 l2_0.length c2_0, .string a2_1, .slice A2_2 l2_2.length c2_2, .int .i64 a2_3] 29 (0, 0)) (by (with_reducible repeat (first | refine blk_drewN ?_ _ | refine blk_drew ?_ | refine blk_alloc ?_ _)); exact BK284.out)) : gb306 ≠ gb284))
                        have n11_ := Aside0.mk ((by rw [hg]; exact Nat.ne_of_lt (blk_lt (g := gb298) (o := .cells #[.int .i64 ((rd_T49 l1 x64_6).f0), .int .i64 ((rd_T49 l1 x64_6).f1), .int .i64 ((rd_T49 l1 x64_6).f2), .slice A297_3 ((rd_T49 l1 x64_6).f3).length c297_3] 49 (0, 0)) (by (with_reducible repeat (first | refine blk_drewN ?_ _ | refine blk_drew ?_ | refine blk_alloc ?_ _)); exact BK298.out)) : gb298 ≠ gb306))
                        have n12_ := Aside0.mk ((by rw [hg]; exact Nat.ne_of_gt (blk_lt (g := gb298) (o := .cells #[.int .i64 ((rd_T49 l1 x64_6).f0), .int .i64 ((rd_T49 l1 x64_6).f1), .int .i64 ((rd_T49 l1 x64_6).f2), .slice A297_3 ((rd_T49 l1 x64_6).f3).length c297_3] 49 (0, 0)) (by (with_reducible repeat (first | refine blk_drewN ?_ _ | refine blk_drew ?_ | refine blk_alloc ?_ _)); exact BK298.out)) : gb306 ≠ gb298))
                        clear BK283
                        clear BK284
                        clear BK298
                        clear HB
                        have BK283 := n0_
                        have BK284 := n1_
                        have BK298 := n2_
                        have HB := n3_
                        have BK306 := n4_
                        have GW306 := n5_
                        have GE306 := n6_
                        have NB283_306 := n7_
                        have NB306_283 := n8_
                        have NB284_306 := n9_
                        have NB306_284 := n10_
                        have NB298_306 := n11_
                        have NB306_298 := n12_
                        clear n0_ n1_ n2_ n3_ n4_ n5_ n6_ n7_ n8_ n9_ n10_ n11_ n12_
                        clear hb hbox hg
                        have hnb59 := NB306_283.out
                        have hnc59 := NB283_306.out
                        have hnb60 := NB306_284.out
                        have hnc60 := NB284_306.out
                        have hnb61 := NB306_298.out
                        have hnc61 := NB298_306.out
                        have hcz62_0 : w58.cell? ⟨gb306, 0, none⟩ = some (.int .i64 0) := (blk_cell BK306.out 0).trans rfl
                        have hcz62_1 : w58.cell? ⟨gb306, 1, none⟩ = some (.int .i64 0) := (blk_cell BK306.out 1).trans rfl
                        have hcz62_2 : w58.cell? ⟨gb306, 2, none⟩ = some (.int .i64 0) := (blk_cell BK306.out 2).trans rfl
                        have hcz62_3 : w58.cell? ⟨gb306, 3, none⟩ = some (.slice none 0 0) := (blk_cell BK306.out 3).trans rfl
                        have hfz62_0 := blk_frozen BK306.out 0
                        have hfz62_1 := blk_frozen BK306.out 1
                        have hfz62_2 := blk_frozen BK306.out 2
                        have hfz62_3 := blk_frozen BK306.out 3
                        have hnb63 := NB298_283.out
                        have hnc63 := NB283_298.out
                        have hnb64 := NB298_284.out
                        have hnc64 := NB284_298.out
                        have hcz65_0 : w58.cell? ⟨gb298, 0, none⟩ = some (.int .i64 ((rd_T49 l1 x64_6).f0)) := (blk_cell BK298.out 0).trans rfl
                        have hcz65_1 : w58.cell? ⟨gb298, 1, none⟩ = some (.int .i64 ((rd_T49 l1 x64_6).f1)) := (blk_cell BK298.out 1).trans rfl
                        have hcz65_2 : w58.cell? ⟨gb298, 2, none⟩ = some (.int .i64 ((rd_T49 l1 x64_6).f2)) := (blk_cell BK298.out 2).trans rfl
                        have hcz65_3 : w58.cell? ⟨gb298, 3, none⟩ = some (.slice A297_3 ((rd_T49 l1 x64_6).f3).length c297_3) := (blk_cell BK298.out 3).trans rfl
                        have hfz65_0 := blk_frozen BK298.out 0
                        have hfz65_1 := blk_frozen BK298.out 1
                        have hfz65_2 := blk_frozen BK298.out 2
                        have hfz65_3 := blk_frozen BK298.out 3
                        have hnb66 := NB284_283.out
                        have hnc66 := NB283_284.out
                        have hcz67_0 : w58.cell? ⟨gb284, 0, none⟩ = some (.slice A2_0 l2_0.length c2_0) := (blk_cell BK284.out 0).trans rfl
                        have hcz67_1 : w58.cell? ⟨gb284, 1, none⟩ = some (.string a2_1) := (blk_cell BK284.out 1).trans rfl
                        have hcz67_2 : w58.cell? ⟨gb284, 2, none⟩ = some (.slice A2_2 l2_2.length c2_2) := (blk_cell BK284.out 2).trans rfl
                        have hcz67_3 : w58.cell? ⟨gb284, 3, none⟩ = some (.int .i64 a2_3) := (blk_cell BK284.out 3).trans rfl
                        have hfz67_0 := blk_frozen BK284.out 0
                        have hfz67_1 := blk_frozen BK284.out 1
                        have hfz67_2 := blk_frozen BK284.out 2
                        have hfz67_3 := blk_frozen BK284.out 3
                        go_wp2_with ((with_reducible refine gate_callee (f := 24) rfl ?_); refine Aside0.out (p := _) ?_)
                        refine ⟨?_⟩
                        refine goesL_ (some 80) rfl rfl Try.func24 (by kernel_rfl) rfl #[.agg #[.int .i64 ((rd_T49 l1 x64_6).f0), .int .i64 ((rd_T49 l1 x64_6).f1), .int .i64 ((rd_T49 l1 x64_6).f2), .slice A297_3 ((rd_T49 l1 x64_6).f3).length c297_3], .agg #[.int .i64 ((rd_T49 y299 x73_8).f0), .int .i64 ((rd_T49 y299 x73_8).f1), .int .i64 ((rd_T49 y299 x73_8).f2), .slice A305_3 ((rd_T49 y299 x73_8).f3).length c305_3], .agg #[.slice A2_0 l2_0.length c2_0, .string a2_1, .slice A2_2 l2_2.length c2_2, .int .i64 a2_3]] rfl (by (try simp only [List.map_toArray, List.map_cons, List.map_nil]); first | done | rfl | (simp only [List.length_drop, List.length_take]; rfl)) ?_
                        (with_reducible refine (testamurlaw13_breaks.calls ((rd_T49 l1 x64_6).f0) ((rd_T49 l1 x64_6).f1) ((rd_T49 l1 x64_6).f2) _ _ ((rd_T49 l1 x64_6).f3) ((rd_T49 y299 x73_8).f0) ((rd_T49 y299 x73_8).f1) ((rd_T49 y299 x73_8).f2) _ _ ((rd_T49 y299 x73_8).f3) _ _ l2_0 a2_1 _ _ l2_2 a2_3 true _ ?side1 ?side2 ?side3 ?side4 ?side5 ?side6 ?side7 ?side8 A56.out).mono ?_)
                        (case side1 => exact Kd.C_below HR297_3.out (by repeat (first | (with_reducible first | exact HB.out | apply below_alloc | apply pw_below_drewN | apply below_drew1 | refine below_set ?_ GE283.out | refine below_set ?_ GE284.out | refine below_set ?_ GE298.out | refine below_set ?_ GE306.out) | exact HB.out)))
                        (case side2 => exact HC297_3.out)
                        (case side3 => exact Kd.C_below HR305_3.out (by repeat (first | (with_reducible first | exact HB.out | apply below_alloc | apply pw_below_drewN | apply below_drew1 | refine below_set ?_ GE283.out | refine below_set ?_ GE284.out | refine below_set ?_ GE298.out | refine below_set ?_ GE306.out) | exact HB.out)))
                        (case side4 => exact HC305_3.out)
                        (case side5 => exact Kd.C_below HR2_0.out (by repeat (first | (with_reducible first | exact HB.out | apply below_alloc | apply pw_below_drewN | apply below_drew1 | refine below_set ?_ GE283.out | refine below_set ?_ GE284.out | refine below_set ?_ GE298.out | refine below_set ?_ GE306.out) | exact HB.out)))
                        (case side6 => exact HC2_0.out)
                        (case side7 => exact Kd.C_below HR2_2.out (by repeat (first | (with_reducible first | exact HB.out | apply below_alloc | apply pw_below_drewN | apply below_drew1 | refine below_set ?_ GE283.out | refine below_set ?_ GE284.out | refine below_set ?_ GE298.out | refine below_set ?_ GE306.out) | exact HB.out)))
                        (case side8 => exact HC2_2.out)
                        rintro e w68 ⟨rfl, hb⟩
                        refine ⟨_, rfl, ?_⟩
                        have n0_ := Aside0.mk (blk_below (g := gb283) (o := .cells #[.string a0_0, .string a0_1, .int .i64 a0_2, .int .i64 a0_3, .slice A0_4 l0_4.length c0_4, .slice A0_5 l0_5.length c0_5] 25 (0, 0)) (by (with_reducible repeat (first | refine blk_drewN ?_ _ | refine blk_drew ?_ | refine blk_alloc ?_ _)); refine blk_far ?_ NB283_306.out _; (with_reducible repeat (first | refine blk_drewN ?_ _ | refine blk_drew ?_ | refine blk_alloc ?_ _)); refine blk_far ?_ NB283_306.out _; (with_reducible repeat (first | refine blk_drewN ?_ _ | refine blk_drew ?_ | refine blk_alloc ?_ _)); refine blk_far ?_ NB283_306.out _; (with_reducible repeat (first | refine blk_drewN ?_ _ | refine blk_drew ?_ | refine blk_alloc ?_ _)); refine blk_far ?_ NB283_306.out _; (with_reducible repeat (first | refine blk_drewN ?_ _ | refine blk_drew ?_ | refine blk_alloc ?_ _)); exact BK283.out) hb)
                        have n1_ := Aside0.mk (blk_below (g := gb284) (o := .cells #[.slice A2_0 l2_0.length c2_0, .string a2_1, .slice A2_2 l2_2.length c2_2, .int .i64 a2_3] 29 (0, 0)) (by (with_reducible repeat (first | refine blk_drewN ?_ _ | refine blk_drew ?_ | refine blk_alloc ?_ _)); refine blk_far ?_ NB284_306.out _; (with_reducible repeat (first | refine blk_drewN ?_ _ | refine blk_drew ?_ | refine blk_alloc ?_ _)); refine blk_far ?_ NB284_306.out _; (with_reducible repeat (first | refine blk_drewN ?_ _ | refine blk_drew ?_ | refine blk_alloc ?_ _)); refine blk_far ?_ NB284_306.out _; (with_reducible repeat (first | refine blk_drewN ?_ _ | refine blk_drew ?_ | refine blk_alloc ?_ _)); refine blk_far ?_ NB284_306.out _; (with_reducible repeat (first | refine blk_drewN ?_ _ | refine blk_drew ?_ | refine blk_alloc ?_ _)); exact BK284.out) hb)
                        have n2_ := Aside0.mk (blk_below (g := gb298) (o := .cells #[.int .i64 ((rd_T49 l1 x64_6).f0), .int .i64 ((rd_T49 l1 x64_6).f1), .int .i64 ((rd_T49 l1 x64_6).f2), .slice A297_3 ((rd_T49 l1 x64_6).f3).length c297_3] 49 (0, 0)) (by (with_reducible repeat (first | refine blk_drewN ?_ _ | refine blk_drew ?_ | refine blk_alloc ?_ _)); refine blk_far ?_ NB298_306.out _; (with_reducible repeat (first | refine blk_drewN ?_ _ | refine blk_drew ?_ | refine blk_alloc ?_ _)); refine blk_far ?_ NB298_306.out _; (with_reducible repeat (first | refine blk_drewN ?_ _ | refine blk_drew ?_ | refine blk_alloc ?_ _)); refine blk_far ?_ NB298_306.out _; (with_reducible repeat (first | refine blk_drewN ?_ _ | refine blk_drew ?_ | refine blk_alloc ?_ _)); refine blk_far ?_ NB298_306.out _; (with_reducible repeat (first | refine blk_drewN ?_ _ | refine blk_drew ?_ | refine blk_alloc ?_ _)); exact BK298.out) hb)
                        have n3_ := Aside0.mk (blk_below (g := gb306) (o := .cells #[.int .i64 ((rd_T49 y299 x73_8).f0), .int .i64 ((rd_T49 y299 x73_8).f1), .int .i64 ((rd_T49 y299 x73_8).f2), .slice A305_3 ((rd_T49 y299 x73_8).f3).length c305_3] 49 (0, 0)) (by (with_reducible repeat (first | refine blk_drewN ?_ _ | refine blk_drew ?_ | refine blk_alloc ?_ _)); refine blk_put (cs := #[.int .i64 ((rd_T49 y299 x73_8).f0), .int .i64 ((rd_T49 y299 x73_8).f1), .int .i64 ((rd_T49 y299 x73_8).f2), .slice none 0 0]) ?_ 3 _ rfl; (with_reducible repeat (first | refine blk_drewN ?_ _ | refine blk_drew ?_ | refine blk_alloc ?_ _)); refine blk_put (cs := #[.int .i64 ((rd_T49 y299 x73_8).f0), .int .i64 ((rd_T49 y299 x73_8).f1), .int .i64 0, .slice none 0 0]) ?_ 2 _ rfl; (with_reducible repeat (first | refine blk_drewN ?_ _ | refine blk_drew ?_ | refine blk_alloc ?_ _)); refine blk_put (cs := #[.int .i64 ((rd_T49 y299 x73_8).f0), .int .i64 0, .int .i64 0, .slice none 0 0]) ?_ 1 _ rfl; (with_reducible repeat (first | refine blk_drewN ?_ _ | refine blk_drew ?_ | refine blk_alloc ?_ _)); refine blk_put (cs := #[.int .i64 0, .int .i64 0, .int .i64 0, .slice none 0 0]) ?_ 0 _ rfl; (with_reducible repeat (first | refine blk_drewN ?_ _ | refine blk_drew ?_ | refine blk_alloc ?_ _)); exact BK306.out) hb)
                        have n4_ := Aside0.mk (below_step (by repeat (first | (with_reducible first | exact HB.out | apply below_alloc | apply pw_below_drewN | apply below_drew1 | refine below_set ?_ GE283.out | refine below_set ?_ GE284.out | refine below_set ?_ GE298.out | refine below_set ?_ GE306.out) | exact HB.out)) hb)
                        clear BK283
                        clear BK284
                        clear BK298
                        clear BK306
                        clear HB
                        have BK283 := n0_
                        have BK284 := n1_
                        have BK298 := n2_
                        have BK306 := n3_
                        have HB := n4_
                        clear n0_ n1_ n2_ n3_ n4_
                        (try clear hb)
                        (try clear hb2)
                        (try clear hk)
                        (try clear hi)
                        go_wp2
                        go_ret
                        exact ⟨by first | rfl | (simp [errW_none, errW_some] <;> rfl) | (simp [*, errW_none, errW_some] <;> rfl), by repeat (first | (with_reducible first | exact HB.out | apply below_alloc | apply pw_below_drewN | apply below_drew1 | refine below_set ?_ GE283.out | refine below_set ?_ GE284.out | refine below_set ?_ GE298.out | refine below_set ?_ GE306.out) | exact HB.out)⟩
                       ·replace c57 := Bool.eq_false_iff.mpr c57
                        subst c57
                        have H1 : (testamurlaw13_DependsSound.l1 k8 l1 l1 (l1.length : Int) x64_6 y299 (y299.length : Int) (wrap64 (x73_8 + 1)) l2_0 a2_1 l2_2 a2_3 ((rd_T49 l1 x64_6).f0) ((rd_T49 l1 x64_6).f1) ((rd_T49 l1 x64_6).f2) ((rd_T49 l1 x64_6).f3)) = some r := by rw [if_neg (show ¬ (false = true) by decide)] at H; exact H
                        clear H
                        have H := H1
                        clear H1
                        have H' := Aside0.mk H
                        clear H
                        have p305 : 0 ≤ (x73_8 : Int) := of_decide_eq_true (by first | (with_reducible assumption) | assumption)
                        have q305 : x73_8 < (y299.length : Int) := of_decide_eq_true (by first | (with_reducible assumption) | assumption)
                        obtain ⟨ad305, A305_3, c305_3, e305, hx305_0, hx305_1, hx305_2, hx305_3, hl305_3, hi305_3⟩ := at_T49 HR302.out x73_8 p305 q305
                        obtain rfl : ad297 = ad305 := (by injection e305)
                        replace hx305_0 := (HB.out.cell (World.block_lt_of_cell? w _ hx305_0)).trans hx305_0
                        replace hx305_1 := (HB.out.cell (World.block_lt_of_cell? w _ hx305_1)).trans hx305_1
                        replace hx305_2 := (HB.out.cell (World.block_lt_of_cell? w _ hx305_2)).trans hx305_2
                        replace hx305_3 := (HB.out.cell (World.block_lt_of_cell? w _ hx305_3)).trans hx305_3
                        have HR305_3 := Aside0.mk hi305_3
                        have HC305_3 := Aside0.mk hl305_3
                        clear hi305_3 hl305_3
                        replace p305 := eq_true p305
                        replace q305 := eq_true q305
                        go_wp2_with ((with_reducible refine gate_dst (N := 17) rfl ?_); (try (refine gate_guard (by rfl) ?_; dsimp only)); refine Aside0.out (p := _) ?_)
                        refine ⟨?_⟩
                        refine box_event ?hg (N := 17) ?hd (cs := #[.int .i64 0, .int .i64 0, .int .i64 0, .slice none 0 0]) (t := 49) ?hr ?_; (case hd => rfl); (case hg => rfl); (case hr => first | (go_simp; done) | (go_simp; rfl))
                        intro gb306 hg w69 hbox hb
                        have n0_ := Aside0.mk (blk_below (g := gb283) (o := .cells #[.string a0_0, .string a0_1, .int .i64 a0_2, .int .i64 a0_3, .slice A0_4 l0_4.length c0_4, .slice A0_5 l0_5.length c0_5] 25 (0, 0)) (by (with_reducible repeat (first | refine blk_drewN ?_ _ | refine blk_drew ?_ | refine blk_alloc ?_ _)); exact BK283.out) hb)
                        have n1_ := Aside0.mk (blk_below (g := gb284) (o := .cells #[.slice A2_0 l2_0.length c2_0, .string a2_1, .slice A2_2 l2_2.length c2_2, .int .i64 a2_3] 29 (0, 0)) (by (with_reducible repeat (first | refine blk_drewN ?_ _ | refine blk_drew ?_ | refine blk_alloc ?_ _)); exact BK284.out) hb)
                        have n2_ := Aside0.mk (blk_below (g := gb298) (o := .cells #[.int .i64 ((rd_T49 l1 x64_6).f0), .int .i64 ((rd_T49 l1 x64_6).f1), .int .i64 ((rd_T49 l1 x64_6).f2), .slice A297_3 ((rd_T49 l1 x64_6).f3).length c297_3] 49 (0, 0)) (by (with_reducible repeat (first | refine blk_drewN ?_ _ | refine blk_drew ?_ | refine blk_alloc ?_ _)); exact BK298.out) hb)
                        have n3_ := Aside0.mk (below_step (by repeat (first | (with_reducible first | exact HB.out | apply below_alloc | apply pw_below_drewN | apply below_drew1 | refine below_set ?_ GE283.out | refine below_set ?_ GE284.out | refine below_set ?_ GE298.out) | exact HB.out)) hb)
                        have n4_ := Aside0.mk (hbox)
                        have n5_ := Aside0.mk ((by rw [hg]; exact (below_size (by repeat (first | (with_reducible first | exact HB.out | apply below_alloc | apply pw_below_drewN | apply below_drew1 | refine below_set ?_ GE283.out | refine below_set ?_ GE284.out | refine below_set ?_ GE298.out) | exact HB.out))) : w.heap.size ≤ gb306))
                        have n6_ := Aside0.mk ((by rw [hg]; exact (below_size (by repeat (first | (with_reducible first | exact HB.out | apply below_alloc | apply pw_below_drewN | apply below_drew1 | refine below_set ?_ GE283.out | refine below_set ?_ GE284.out | refine below_set ?_ GE298.out) | exact HB.out))) : w.heap.size ≤ gb306))
                        have n7_ := Aside0.mk ((by rw [hg]; exact Nat.ne_of_lt (blk_lt (g := gb283) (o := .cells #[.string a0_0, .string a0_1, .int .i64 a0_2, .int .i64 a0_3, .slice A0_4 l0_4.length c0_4, .slice A0_5 l0_5.length c0_5] 25 (0, 0)) (by (with_reducible repeat (first | refine blk_drewN ?_ _ | refine blk_drew ?_ | refine blk_alloc ?_ _)); exact BK283.out)) : gb283 ≠ gb306))
                        have n8_ := Aside0.mk ((by rw [hg]; exact Nat.ne_of_gt (blk_lt (g := gb283) (o := .cells #[.string a0_0, .string a0_1, .int .i64 a0_2, .int .i64 a0_3, .slice A0_4 l0_4.length c0_4, .slice A0_5 l0_5.length c0_5] 25 (0, 0)) (by (with_reducible repeat (first | refine blk_drewN ?_ _ | refine blk_drew ?_ | refine blk_alloc ?_ _)); exact BK283.out)) : gb306 ≠ gb283))
                        have n9_ := Aside0.mk ((by rw [hg]; exact Nat.ne_of_lt (blk_lt (g := gb284) (o := .cells #[.slice A2_0 l2_0.length c2_0, .string a2_1, .slice A2_2 l2_2.length c2_2, .int .i64 a2_3] 29 (0, 0)) (by (with_reducible repeat (first | refine blk_drewN ?_ _ | refine blk_drew ?_ | refine blk_alloc ?_ _)); exact BK284.out)) : gb284 ≠ gb306))
                        have n10_ := Aside0.mk ((by rw [hg]; exact Nat.ne_of_gt (blk_lt (g := gb284) (o := .cells #[.slice A2_0 l2_0.length c2_0, .string a2_1, .slice A2_2 l2_2.length c2_2, .int .i64 a2_3] 29 (0, 0)) (by (with_reducible repeat (first | refine blk_drewN ?_ _ | refine blk_drew ?_ | refine blk_alloc ?_ _)); exact BK284.out)) : gb306 ≠ gb284))
                        have n11_ := Aside0.mk ((by rw [hg]; exact Nat.ne_of_lt (blk_lt (g := gb298) (o := .cells #[.int .i64 ((rd_T49 l1 x64_6).f0), .int .i64 ((rd_T49 l1 x64_6).f1), .int .i64 ((rd_T49 l1 x64_6).f2), .slice A297_3 ((rd_T49 l1 x64_6).f3).length c297_3] 49 (0, 0)) (by (with_reducible repeat (first | refine blk_drewN ?_ _ | refine blk_drew ?_ | refine blk_alloc ?_ _)); exact BK298.out)) : gb298 ≠ gb306))
                        have n12_ := Aside0.mk ((by rw [hg]; exact Nat.ne_of_gt (blk_lt (g := gb298) (o := .cells #[.int .i64 ((rd_T49 l1 x64_6).f0), .int .i64 ((rd_T49 l1 x64_6).f1), .int .i64 ((rd_T49 l1 x64_6).f2), .slice A297_3 ((rd_T49 l1 x64_6).f3).length c297_3] 49 (0, 0)) (by (with_reducible repeat (first | refine blk_drewN ?_ _ | refine blk_drew ?_ | refine blk_alloc ?_ _)); exact BK298.out)) : gb306 ≠ gb298))
                        clear BK283
                        clear BK284
                        clear BK298
                        clear HB
                        have BK283 := n0_
                        have BK284 := n1_
                        have BK298 := n2_
                        have HB := n3_
                        have BK306 := n4_
                        have GW306 := n5_
                        have GE306 := n6_
                        have NB283_306 := n7_
                        have NB306_283 := n8_
                        have NB284_306 := n9_
                        have NB306_284 := n10_
                        have NB298_306 := n11_
                        have NB306_298 := n12_
                        clear n0_ n1_ n2_ n3_ n4_ n5_ n6_ n7_ n8_ n9_ n10_ n11_ n12_
                        clear hb hbox hg
                        have hnb70 := NB306_283.out
                        have hnc70 := NB283_306.out
                        have hnb71 := NB306_284.out
                        have hnc71 := NB284_306.out
                        have hnb72 := NB306_298.out
                        have hnc72 := NB298_306.out
                        have hcz73_0 : w69.cell? ⟨gb306, 0, none⟩ = some (.int .i64 0) := (blk_cell BK306.out 0).trans rfl
                        have hcz73_1 : w69.cell? ⟨gb306, 1, none⟩ = some (.int .i64 0) := (blk_cell BK306.out 1).trans rfl
                        have hcz73_2 : w69.cell? ⟨gb306, 2, none⟩ = some (.int .i64 0) := (blk_cell BK306.out 2).trans rfl
                        have hcz73_3 : w69.cell? ⟨gb306, 3, none⟩ = some (.slice none 0 0) := (blk_cell BK306.out 3).trans rfl
                        have hfz73_0 := blk_frozen BK306.out 0
                        have hfz73_1 := blk_frozen BK306.out 1
                        have hfz73_2 := blk_frozen BK306.out 2
                        have hfz73_3 := blk_frozen BK306.out 3
                        have hnb74 := NB298_283.out
                        have hnc74 := NB283_298.out
                        have hnb75 := NB298_284.out
                        have hnc75 := NB284_298.out
                        have hcz76_0 : w69.cell? ⟨gb298, 0, none⟩ = some (.int .i64 ((rd_T49 l1 x64_6).f0)) := (blk_cell BK298.out 0).trans rfl
                        have hcz76_1 : w69.cell? ⟨gb298, 1, none⟩ = some (.int .i64 ((rd_T49 l1 x64_6).f1)) := (blk_cell BK298.out 1).trans rfl
                        have hcz76_2 : w69.cell? ⟨gb298, 2, none⟩ = some (.int .i64 ((rd_T49 l1 x64_6).f2)) := (blk_cell BK298.out 2).trans rfl
                        have hcz76_3 : w69.cell? ⟨gb298, 3, none⟩ = some (.slice A297_3 ((rd_T49 l1 x64_6).f3).length c297_3) := (blk_cell BK298.out 3).trans rfl
                        have hfz76_0 := blk_frozen BK298.out 0
                        have hfz76_1 := blk_frozen BK298.out 1
                        have hfz76_2 := blk_frozen BK298.out 2
                        have hfz76_3 := blk_frozen BK298.out 3
                        have hnb77 := NB284_283.out
                        have hnc77 := NB283_284.out
                        have hcz78_0 : w69.cell? ⟨gb284, 0, none⟩ = some (.slice A2_0 l2_0.length c2_0) := (blk_cell BK284.out 0).trans rfl
                        have hcz78_1 : w69.cell? ⟨gb284, 1, none⟩ = some (.string a2_1) := (blk_cell BK284.out 1).trans rfl
                        have hcz78_2 : w69.cell? ⟨gb284, 2, none⟩ = some (.slice A2_2 l2_2.length c2_2) := (blk_cell BK284.out 2).trans rfl
                        have hcz78_3 : w69.cell? ⟨gb284, 3, none⟩ = some (.int .i64 a2_3) := (blk_cell BK284.out 3).trans rfl
                        have hfz78_0 := blk_frozen BK284.out 0
                        have hfz78_1 := blk_frozen BK284.out 1
                        have hfz78_2 := blk_frozen BK284.out 2
                        have hfz78_3 := blk_frozen BK284.out 3
                        go_wp2_with ((with_reducible refine gate_callee (f := 24) rfl ?_); refine Aside0.out (p := _) ?_)
                        refine ⟨?_⟩
                        refine goesL_ (some 80) rfl rfl Try.func24 (by kernel_rfl) rfl #[.agg #[.int .i64 ((rd_T49 l1 x64_6).f0), .int .i64 ((rd_T49 l1 x64_6).f1), .int .i64 ((rd_T49 l1 x64_6).f2), .slice A297_3 ((rd_T49 l1 x64_6).f3).length c297_3], .agg #[.int .i64 ((rd_T49 y299 x73_8).f0), .int .i64 ((rd_T49 y299 x73_8).f1), .int .i64 ((rd_T49 y299 x73_8).f2), .slice A305_3 ((rd_T49 y299 x73_8).f3).length c305_3], .agg #[.slice A2_0 l2_0.length c2_0, .string a2_1, .slice A2_2 l2_2.length c2_2, .int .i64 a2_3]] rfl (by (try simp only [List.map_toArray, List.map_cons, List.map_nil]); first | done | rfl | (simp only [List.length_drop, List.length_take]; rfl)) ?_
                        (with_reducible refine (testamurlaw13_breaks.calls ((rd_T49 l1 x64_6).f0) ((rd_T49 l1 x64_6).f1) ((rd_T49 l1 x64_6).f2) _ _ ((rd_T49 l1 x64_6).f3) ((rd_T49 y299 x73_8).f0) ((rd_T49 y299 x73_8).f1) ((rd_T49 y299 x73_8).f2) _ _ ((rd_T49 y299 x73_8).f3) _ _ l2_0 a2_1 _ _ l2_2 a2_3 false _ ?side1 ?side2 ?side3 ?side4 ?side5 ?side6 ?side7 ?side8 A56.out).mono ?_)
                        (case side1 => exact Kd.C_below HR297_3.out (by repeat (first | (with_reducible first | exact HB.out | apply below_alloc | apply pw_below_drewN | apply below_drew1 | refine below_set ?_ GE283.out | refine below_set ?_ GE284.out | refine below_set ?_ GE298.out | refine below_set ?_ GE306.out) | exact HB.out)))
                        (case side2 => exact HC297_3.out)
                        (case side3 => exact Kd.C_below HR305_3.out (by repeat (first | (with_reducible first | exact HB.out | apply below_alloc | apply pw_below_drewN | apply below_drew1 | refine below_set ?_ GE283.out | refine below_set ?_ GE284.out | refine below_set ?_ GE298.out | refine below_set ?_ GE306.out) | exact HB.out)))
                        (case side4 => exact HC305_3.out)
                        (case side5 => exact Kd.C_below HR2_0.out (by repeat (first | (with_reducible first | exact HB.out | apply below_alloc | apply pw_below_drewN | apply below_drew1 | refine below_set ?_ GE283.out | refine below_set ?_ GE284.out | refine below_set ?_ GE298.out | refine below_set ?_ GE306.out) | exact HB.out)))
                        (case side6 => exact HC2_0.out)
                        (case side7 => exact Kd.C_below HR2_2.out (by repeat (first | (with_reducible first | exact HB.out | apply below_alloc | apply pw_below_drewN | apply below_drew1 | refine below_set ?_ GE283.out | refine below_set ?_ GE284.out | refine below_set ?_ GE298.out | refine below_set ?_ GE306.out) | exact HB.out)))
                        (case side8 => exact HC2_2.out)
                        rintro e w79 ⟨rfl, hb⟩
                        refine ⟨_, rfl, ?_⟩
                        have n0_ := Aside0.mk (blk_below (g := gb283) (o := .cells #[.string a0_0, .string a0_1, .int .i64 a0_2, .int .i64 a0_3, .slice A0_4 l0_4.length c0_4, .slice A0_5 l0_5.length c0_5] 25 (0, 0)) (by (with_reducible repeat (first | refine blk_drewN ?_ _ | refine blk_drew ?_ | refine blk_alloc ?_ _)); refine blk_far ?_ NB283_306.out _; (with_reducible repeat (first | refine blk_drewN ?_ _ | refine blk_drew ?_ | refine blk_alloc ?_ _)); refine blk_far ?_ NB283_306.out _; (with_reducible repeat (first | refine blk_drewN ?_ _ | refine blk_drew ?_ | refine blk_alloc ?_ _)); refine blk_far ?_ NB283_306.out _; (with_reducible repeat (first | refine blk_drewN ?_ _ | refine blk_drew ?_ | refine blk_alloc ?_ _)); refine blk_far ?_ NB283_306.out _; (with_reducible repeat (first | refine blk_drewN ?_ _ | refine blk_drew ?_ | refine blk_alloc ?_ _)); exact BK283.out) hb)
                        have n1_ := Aside0.mk (blk_below (g := gb284) (o := .cells #[.slice A2_0 l2_0.length c2_0, .string a2_1, .slice A2_2 l2_2.length c2_2, .int .i64 a2_3] 29 (0, 0)) (by (with_reducible repeat (first | refine blk_drewN ?_ _ | refine blk_drew ?_ | refine blk_alloc ?_ _)); refine blk_far ?_ NB284_306.out _; (with_reducible repeat (first | refine blk_drewN ?_ _ | refine blk_drew ?_ | refine blk_alloc ?_ _)); refine blk_far ?_ NB284_306.out _; (with_reducible repeat (first | refine blk_drewN ?_ _ | refine blk_drew ?_ | refine blk_alloc ?_ _)); refine blk_far ?_ NB284_306.out _; (with_reducible repeat (first | refine blk_drewN ?_ _ | refine blk_drew ?_ | refine blk_alloc ?_ _)); refine blk_far ?_ NB284_306.out _; (with_reducible repeat (first | refine blk_drewN ?_ _ | refine blk_drew ?_ | refine blk_alloc ?_ _)); exact BK284.out) hb)
                        have n2_ := Aside0.mk (blk_below (g := gb298) (o := .cells #[.int .i64 ((rd_T49 l1 x64_6).f0), .int .i64 ((rd_T49 l1 x64_6).f1), .int .i64 ((rd_T49 l1 x64_6).f2), .slice A297_3 ((rd_T49 l1 x64_6).f3).length c297_3] 49 (0, 0)) (by (with_reducible repeat (first | refine blk_drewN ?_ _ | refine blk_drew ?_ | refine blk_alloc ?_ _)); refine blk_far ?_ NB298_306.out _; (with_reducible repeat (first | refine blk_drewN ?_ _ | refine blk_drew ?_ | refine blk_alloc ?_ _)); refine blk_far ?_ NB298_306.out _; (with_reducible repeat (first | refine blk_drewN ?_ _ | refine blk_drew ?_ | refine blk_alloc ?_ _)); refine blk_far ?_ NB298_306.out _; (with_reducible repeat (first | refine blk_drewN ?_ _ | refine blk_drew ?_ | refine blk_alloc ?_ _)); refine blk_far ?_ NB298_306.out _; (with_reducible repeat (first | refine blk_drewN ?_ _ | refine blk_drew ?_ | refine blk_alloc ?_ _)); exact BK298.out) hb)
                        have n3_ := Aside0.mk (blk_below (g := gb306) (o := .cells #[.int .i64 ((rd_T49 y299 x73_8).f0), .int .i64 ((rd_T49 y299 x73_8).f1), .int .i64 ((rd_T49 y299 x73_8).f2), .slice A305_3 ((rd_T49 y299 x73_8).f3).length c305_3] 49 (0, 0)) (by (with_reducible repeat (first | refine blk_drewN ?_ _ | refine blk_drew ?_ | refine blk_alloc ?_ _)); refine blk_put (cs := #[.int .i64 ((rd_T49 y299 x73_8).f0), .int .i64 ((rd_T49 y299 x73_8).f1), .int .i64 ((rd_T49 y299 x73_8).f2), .slice none 0 0]) ?_ 3 _ rfl; (with_reducible repeat (first | refine blk_drewN ?_ _ | refine blk_drew ?_ | refine blk_alloc ?_ _)); refine blk_put (cs := #[.int .i64 ((rd_T49 y299 x73_8).f0), .int .i64 ((rd_T49 y299 x73_8).f1), .int .i64 0, .slice none 0 0]) ?_ 2 _ rfl; (with_reducible repeat (first | refine blk_drewN ?_ _ | refine blk_drew ?_ | refine blk_alloc ?_ _)); refine blk_put (cs := #[.int .i64 ((rd_T49 y299 x73_8).f0), .int .i64 0, .int .i64 0, .slice none 0 0]) ?_ 1 _ rfl; (with_reducible repeat (first | refine blk_drewN ?_ _ | refine blk_drew ?_ | refine blk_alloc ?_ _)); refine blk_put (cs := #[.int .i64 0, .int .i64 0, .int .i64 0, .slice none 0 0]) ?_ 0 _ rfl; (with_reducible repeat (first | refine blk_drewN ?_ _ | refine blk_drew ?_ | refine blk_alloc ?_ _)); exact BK306.out) hb)
                        have n4_ := Aside0.mk (below_step (by repeat (first | (with_reducible first | exact HB.out | apply below_alloc | apply pw_below_drewN | apply below_drew1 | refine below_set ?_ GE283.out | refine below_set ?_ GE284.out | refine below_set ?_ GE298.out | refine below_set ?_ GE306.out) | exact HB.out)) hb)
                        clear BK283
                        clear BK284
                        clear BK298
                        clear BK306
                        clear HB
                        have BK283 := n0_
                        have BK284 := n1_
                        have BK298 := n2_
                        have BK306 := n3_
                        have HB := n4_
                        clear n0_ n1_ n2_ n3_ n4_
                        (try clear hb)
                        (try clear hb2)
                        (try clear hk)
                        (try clear hi)
                        go_wp2
                        go_roundg k8
                        case measure => have := HJ4.out; have := HJ9.out; have := HJ24.out; have := HJ28.out; have := HJ38.out; have := HK6.out; have := HJ40.out; have := HK8.out; omega
                        case rel => exact ⟨(wrap64 (x73_8 + 1)), (by first | rfl | (simp; done) | (simp [*]; done)), H', ⟨by have := HJ4.out; have := HJ9.out; have := HJ24.out; have := HJ28.out; have := HJ38.out; have := HK6.out; have := HJ40.out; have := HK8.out; omega⟩, ⟨by (with_reducible repeat (first | refine blk_drewN ?_ _ | refine blk_drew ?_ | refine blk_alloc ?_ _)); exact BK283.out⟩, ⟨by (with_reducible repeat (first | refine blk_drewN ?_ _ | refine blk_drew ?_ | refine blk_alloc ?_ _)); exact BK284.out⟩, ⟨by (with_reducible repeat (first | refine blk_drewN ?_ _ | refine blk_drew ?_ | refine blk_alloc ?_ _)); exact BK298.out⟩, ⟨by repeat (first | (with_reducible first | exact HB.out | apply below_alloc | apply pw_below_drewN | apply below_drew1 | refine below_set ?_ GE283.out | refine below_set ?_ GE284.out | refine below_set ?_ GE298.out | refine below_set ?_ GE306.out) | exact HB.out)⟩⟩
                      ·rw [if_neg c55] at H
                       exact absurd H (by simp)
                     ·rw [if_neg c54] at H
                      exact absurd H (by simp)
                    ·rw [if_neg c53] at H
                     have c53b0 : decide (x73_8 < (y299.length : Int)) = false := decide_eq_false c53
                     clear c53
                     have H' := Aside0.mk H
                     clear H
                     go_wp2
                     go_roundg k8
                     case measure => have := HJ4.out; have := HJ9.out; have := HJ24.out; have := HJ28.out; have := HJ38.out; have := HK6.out; have := HJ40.out; have := HK8.out; omega
                     case rel => exact ⟨(wrap64 (x64_6 + 1)), (by first | rfl | (simp; done) | (simp [*]; done)), H', ⟨by have := HJ4.out; have := HJ9.out; have := HJ24.out; have := HJ28.out; have := HJ38.out; have := HK6.out; have := HJ40.out; have := HK8.out; omega⟩, ⟨by (with_reducible repeat (first | refine blk_drewN ?_ _ | refine blk_drew ?_ | refine blk_alloc ?_ _)); exact BK283.out⟩, ⟨by (with_reducible repeat (first | refine blk_drewN ?_ _ | refine blk_drew ?_ | refine blk_alloc ?_ _)); exact BK284.out⟩, ⟨by repeat (first | (with_reducible first | exact HB.out | apply below_alloc | apply pw_below_drewN | apply below_drew1 | refine below_set ?_ GE283.out | refine below_set ?_ GE284.out | refine below_set ?_ GE298.out) | exact HB.out)⟩⟩
                 ·rw [if_neg c46] at H
                  exact absurd H (by simp)
                ·rw [if_neg c44] at H
                 exact absurd H (by simp)
               ·rw [if_neg c43] at H
                exact absurd H (by simp)

end Go.Proofs.Ytfbcjeknibfjcaa.P
