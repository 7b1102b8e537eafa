/- The law DependsSpec: for every input the call returns true, and each argument reads behind it as it read before. Conditions: none of ours. Written by lawrow.py; the walk is printed, the plain law is YtfbcjeknibfjcaaPureDependsSpec. -/
import Derived.Test.YtfbcjeknibfjcaaRows
import Derived.Test.YtfbcjeknibfjcaaPureDependsSpec
import Derived.WalkKit
import Derived.ProofKit
import Derived.OpenShut
import Derived.ShutString
import Derived.ChangeOld
import Derived.Below
import Derived.SizedLaws
namespace Go.Proofs.Ytfbcjeknibfjcaa.dependsSpec
open Go.ChangeShapes Go.WideShapes Go.ChangeAt Go.RowKit
open Go.ChangeMaps (open_string shut_string)
open Go.Proofs.YtfbcjeknibfjcaaW.PrintWords Go.Proofs.YtfbcjeknibfjcaaO Go.Proofs.Ytfbcjeknibfjcaa.P
set_option linter.unusedVariables false
theorem own : ownKnob Try.prog.godebug = none := by kernel_rfl
theorem laidOut : laidOutB Try.prog = true := by kernel_rfl
set_option maxRecDepth 100000 in
set_option maxHeartbeats 1000000 in
theorem lifted (os : Os) (started : os.Started) (H : Type) (enc : TypeId × Value → H) :
    ReturnsInHanded {} Try.checked os 3 .any (Rows.dependsSpecSpec.pre6 enc Try.prog Try.f3 Rows.dependsSpecRow.domain false) (Rows.dependsSpecSpec.post enc Try.prog Try.f3 false true false false) := by
  refine returnsInHanded_of_change_sized (C := Try.checked) own started (by kernel_rfl) Try.func3
    (ChangeSpec.witness6 (enc := enc) (C := Try.checked) false ⟨#[], #[(.agg #[(.string ⟨#[]⟩), (.string ⟨#[]⟩), (.int .i64 0), (.int .i64 0), (.slice none 0 0), (.slice none 0 0)]), .slice none 0 0, (.agg #[(.slice none 0 0), (.string ⟨#[]⟩), (.slice none 0 0), (.int .i64 0)])], []⟩ 8 (by kernel_rfl) (by kernel_rfl) (by kernel_rfl) (by kernel_rfl)) ?_
  intro W base args ds gs before hval0 hW hcnd hsz0 _
  have hsz : (DataW.weightsEach Try.prog (Try.f3.params.toList ++ Rows.dependsSpecSpec.plain.varTypes Try.prog) (ds ++ gs)).all (· ≤ reachBytes) = true := hsz0
  have hval : ∀ (j : Nat) t v, Try.f3.params[j]? = some t → args[j]? = some v → Value.okWide Try.prog W .any base t v := hval0
  have hW' := hW
  obtain ⟨p, q, hA0, hV, rfl, hfz, hnd⟩ := hW
  have hA : DataW.TrodAll enc Try.prog W 0 (fun _ => true) true Try.f3.params.toList args.toList ds p := hA0
  rw [Try.params3] at hA hval hsz
  obtain ⟨v0, vs0, d0, ds0, p0, q0, hargs, rfl, rfl, h0, r0⟩ := trodAll_cons hA
  obtain ⟨v1, vs1, d1, ds1, p1, q1, rfl, rfl, rfl, h1, r1⟩ := trodAll_cons r0
  obtain ⟨v2, vs2, d2, ds2, p2, q2, rfl, rfl, rfl, h2, r2⟩ := trodAll_cons r1
  obtain ⟨rfl, rfl, rfl⟩ := trodAll_nil r2
  obtain rfl : args = #[v0, v1, v2] := by cases args; simp_all
  obtain ⟨rfl, rfl⟩ := trodVars_none hV
  obtain ⟨cs0, rfl, _⟩ := okWide_struct Try.underlying25 (hval 0 25 v0 rfl rfl)
  have k0 := h0
  have lt0 : ∀ x ∈ p0, x.block < W.heap.size := by obtain ⟨m, hm⟩ := k0; exact DataW.trod_lt m _ _ _ hm
  obtain ⟨x0, hK0, hG0⟩ := arg_agg (d := k25) opens25 k0
  obtain ⟨A0_4, c0_4, A0_5, c0_5, e0, hc0_4, hC0_4, hc0_5, hC0_5⟩ := k25_open hK0
  obtain rfl : cs0 = #[.string x0.f0, .string x0.f1, .int .i64 x0.f2, .int .i64 x0.f3, .slice A0_4 x0.f4.length c0_4, .slice A0_5 x0.f5.length c0_5] := by cases cs0; simpa using e0
  obtain ⟨A1, len1, c1, rfl⟩ := okWide_slice Try.underlying26 (hval 1 26 v1 rfl rfl)
  have k1 := h1
  have lt1 : ∀ x ∈ p1, x.block < W.heap.size := by obtain ⟨m, hm⟩ := k1; exact DataW.trod_lt m _ _ _ hm
  obtain ⟨l1, rfl, hc1, hC1, hG1⟩ := arg_slice (d := (Kd.int .i64)) (opens_slice Try.underlying26 (by kernel_rfl) (opens_int Try.underlying3)) k1
  have y1 : l1.length * 8 ≤ 140737488351232 := arg_sized hsz (j := 1) (t := 26) rfl rfl Try.underlying26 k1 (by kernel_rfl)
  have m1 : l1.length ≤ maxLen := by simpa [maxLen] using hC1.2.1
  obtain ⟨cs2, rfl, _⟩ := okWide_struct Try.underlying29 (hval 2 29 v2 rfl rfl)
  have k2 := h2
  have lt2 : ∀ x ∈ p2, x.block < W.heap.size := by obtain ⟨m, hm⟩ := k2; exact DataW.trod_lt m _ _ _ hm
  obtain ⟨x2, hK2, hG2⟩ := arg_agg (d := k29) opens29 k2
  obtain ⟨A2_0, c2_0, A2_2, c2_2, e2, hc2_0, hC2_0, hc2_2, hC2_2⟩ := k29_open hK2
  obtain rfl : cs2 = #[.slice A2_0 x2.f0.length c2_0, .string x2.f1, .slice A2_2 x2.f2.length c2_2, .int .i64 x2.f3] := by cases cs2; simpa using e2
  clear hA0 hval0 hsz0 hsz
  obtain ⟨k, h⟩ := pureDependsSpec x0 l1 x2 hG0 m1 y1 hG1 hG2
  refine (testamurlaw13_DependsSpec.calls k x0.f0 x0.f1 x0.f2 x0.f3 A0_4 c0_4 x0.f4 A0_5 c0_5 x0.f5 A1 c1 l1 A2_0 c2_0 x2.f0 x2.f1 A2_2 c2_2 x2.f2 x2.f3 true W hC0_4 hc0_4 hC0_5 hc0_5 hC1 hc1 hC2_0 hc2_0 hC2_2 hc2_2 h).mono fun e W' he0 => ?_
  obtain ⟨he, bel0⟩ := he0
  have bel : Below W.heap.size W W' := bel0
  subst he
  exact ⟨_, rfl, _, _, _, [], _, [], hW', trodAll_mk1 (shut_bool Try.underlying4 _), (trodAll_cons_mk (Below.trod laidOut (by kernel_rfl) (of_decide_eq_true (by kernel_rfl)) k0 bel lt0) (trodAll_cons_mk (Below.trod laidOut (by kernel_rfl) (of_decide_eq_true (by kernel_rfl)) k1 bel lt1) (trodAll_cons_mk (Below.trod laidOut (by kernel_rfl) (of_decide_eq_true (by kernel_rfl)) k2 bel lt2) trodAll_mk0))), rfl, bel.frame _, fun h => by cases h⟩
theorem over : Rows.dependsSpecRow.holds Try.pinned (OpenSpec.ofChange Rows.dependsSpecSpec) :=
  OpenClaim.holds_of_wide 3 Try.f3 rfl rfl rfl rfl rfl rfl rfl ⟨rfl, rfl, rfl, rfl, rfl⟩ rfl rfl rfl rfl rfl (by kernel_rfl) Try.func3 (by kernel_rfl)
    (of_decide_eq_true (by kernel_rfl)) (by unfold Func.isWrapper; first | (rw [if_pos (by decide +kernel)]; kernel_rfl) | (rw [if_neg (by decide +kernel)]; exact ⟨rfl, rfl⟩))
    (fun os started H enc _ => lifted os started H enc)
theorem proved : Rows.DependsSpecSaid := over
#print axioms proved
end Go.Proofs.Ytfbcjeknibfjcaa.dependsSpec
namespace Go.Proofs.Ytfbcjeknibfjcaa
/-- The row, under a short name, for the claim. -/
theorem dependsSpec_holds : Rows.DependsSpecSaid := dependsSpec.proved
end Go.Proofs.Ytfbcjeknibfjcaa
