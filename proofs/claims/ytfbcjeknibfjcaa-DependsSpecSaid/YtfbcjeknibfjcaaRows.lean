/-
  No cell of these rows narrows 'for every input' (looked for: loops, veiled, ifaces, maps, wideKeys, modest, calm, conditions, laid).
  DERIVED. THE GIVEN ROWS OF THIS SEAT. 7 by the template 'for every input the law returns true; each argument reads behind the call as it read before'; 0 by the template 'total and deterministic' (their statements: YtfbcjeknibfjcaaTotals.lean).
  GIVEN WITH THE SEED: the statements are not yours to turn. If you find one false, say at which input.
  Laid BY PROGRAM, IN A SANDBOX (cutbox-rows.mjs): the forced cells as the released guide's own fill.sh prints them over the translation 1bc2198ad67267e4… (all of the seat's roots in one cut). By AI agents, Wed Nov 11 2026. No macro, syntax, notation, axiom, sorry.
-/
import Derived.Test.YtfbcjeknibfjcaaChecked
import GoSem.Claim
import GoSem.ClaimJoined
import GoSem.ClaimMapViews
import Derived.JoinedTies
import Derived.KernelRfl
namespace Go.Proofs.Ytfbcjeknibfjcaa
/- THE CELL 'sum', in the pinned program and in every row, IS THE sha256 OF THE DUMP (.gsa) THAT YtfbcjeknibfjcaaProg.lean LOADS. Nothing in Lean hashes anything: it is a label: what it is worth is what the hold of that sum in a sandbox is worth. -/
noncomputable def Try.pinned : Pinned := { name := "ytfbcjeknibfjcaa", sum := "1bc2198ad67267e4a641adc847b000dbec9ed85992f64d865dc484d51b15e7a8", checked := Try.checked }
namespace Rows
def none {H : Type} : Left H := { results := [], args := [] }

/-- 'testamurlaw13.DependsSpec': WHATEVER THE INPUT: true; the input reads as it did. -/
def dependsSpecSpec : ChangeSpec := { name := "dependsSpec", fn := fun _ => fun
  | [d1, d2, d3] => { results := [.lit (.bool true)], args := [d1, d2, d3] }
  | _ => none }
def dependsSpecRow : OpenClaim := { program := "ytfbcjeknibfjcaa", sum := "1bc2198ad67267e4a641adc847b000dbec9ed85992f64d865dc484d51b15e7a8", func := "testamur/testamurlaw13.DependsSpec", spec := "dependsSpec", unfollowed := true, recurses := true, apart := false }
def DependsSpecSaid : Prop := dependsSpecRow.holds Try.pinned (OpenSpec.ofChange dependsSpecSpec)

/-- ITS FALSE NEIGHBOUR: 'it returns false'. Refute it at one input. -/
def dependsSpecWrong : ChangeSpec := { name := "dependsSpec", fn := fun _ => fun
  | [d1, d2, d3] => { results := [.lit (.bool false)], args := [d1, d2, d3] }
  | _ => none }
def DependsSpecWrongFalsely : Prop := dependsSpecRow.holds Try.pinned (OpenSpec.ofChange dependsSpecWrong)

/-- 'testamurlaw13.DependsBrokenSpec': WHATEVER THE INPUT: true; the input reads as it did. -/
def dependsBrokenSpecSpec : ChangeSpec := { name := "dependsBrokenSpec", fn := fun _ => fun
  | [d1, d2] => { results := [.lit (.bool true)], args := [d1, d2] }
  | _ => none }
def dependsBrokenSpecRow : OpenClaim := { program := "ytfbcjeknibfjcaa", sum := "1bc2198ad67267e4a641adc847b000dbec9ed85992f64d865dc484d51b15e7a8", func := "testamur/testamurlaw13.DependsBrokenSpec", spec := "dependsBrokenSpec", unfollowed := true, recurses := true, apart := false }
def DependsBrokenSpecSaid : Prop := dependsBrokenSpecRow.holds Try.pinned (OpenSpec.ofChange dependsBrokenSpecSpec)

/-- ITS FALSE NEIGHBOUR: 'it returns false'. Refute it at one input. -/
def dependsBrokenSpecWrong : ChangeSpec := { name := "dependsBrokenSpec", fn := fun _ => fun
  | [d1, d2] => { results := [.lit (.bool false)], args := [d1, d2] }
  | _ => none }
def DependsBrokenSpecWrongFalsely : Prop := dependsBrokenSpecRow.holds Try.pinned (OpenSpec.ofChange dependsBrokenSpecWrong)

/-- 'testamurlaw13.DependsClosure': WHATEVER THE INPUT: true; the input reads as it did. -/
def dependsClosureSpec : ChangeSpec := { name := "dependsClosure", fn := fun _ => fun
  | [d1, d2, d3, d4] => { results := [.lit (.bool true)], args := [d1, d2, d3, d4] }
  | _ => none }
def dependsClosureRow : OpenClaim := { program := "ytfbcjeknibfjcaa", sum := "1bc2198ad67267e4a641adc847b000dbec9ed85992f64d865dc484d51b15e7a8", func := "testamur/testamurlaw13.DependsClosure", spec := "dependsClosure", unfollowed := true, recurses := true, apart := false }
def DependsClosureSaid : Prop := dependsClosureRow.holds Try.pinned (OpenSpec.ofChange dependsClosureSpec)

/-- ITS FALSE NEIGHBOUR: 'it returns false'. Refute it at one input. -/
def dependsClosureWrong : ChangeSpec := { name := "dependsClosure", fn := fun _ => fun
  | [d1, d2, d3, d4] => { results := [.lit (.bool false)], args := [d1, d2, d3, d4] }
  | _ => none }
def DependsClosureWrongFalsely : Prop := dependsClosureRow.holds Try.pinned (OpenSpec.ofChange dependsClosureWrong)

/-- 'testamurlaw13.DependsSound': WHATEVER THE INPUT: true; the input reads as it did. -/
def dependsSoundSpec : ChangeSpec := { name := "dependsSound", fn := fun _ => fun
  | [d1, d2, d3] => { results := [.lit (.bool true)], args := [d1, d2, d3] }
  | _ => none }
def dependsSoundRow : OpenClaim := { program := "ytfbcjeknibfjcaa", sum := "1bc2198ad67267e4a641adc847b000dbec9ed85992f64d865dc484d51b15e7a8", func := "testamur/testamurlaw13.DependsSound", spec := "dependsSound", unfollowed := true, recurses := true, apart := false }
def DependsSoundSaid : Prop := dependsSoundRow.holds Try.pinned (OpenSpec.ofChange dependsSoundSpec)

/-- ITS FALSE NEIGHBOUR: 'it returns false'. Refute it at one input. -/
def dependsSoundWrong : ChangeSpec := { name := "dependsSound", fn := fun _ => fun
  | [d1, d2, d3] => { results := [.lit (.bool false)], args := [d1, d2, d3] }
  | _ => none }
def DependsSoundWrongFalsely : Prop := dependsSoundRow.holds Try.pinned (OpenSpec.ofChange dependsSoundWrong)

/-- 'testamurlaw13.DependsComplete': WHATEVER THE INPUT: true; the input reads as it did. -/
def dependsCompleteSpec : ChangeSpec := { name := "dependsComplete", fn := fun _ => fun
  | [d1, d2, d3] => { results := [.lit (.bool true)], args := [d1, d2, d3] }
  | _ => none }
def dependsCompleteRow : OpenClaim := { program := "ytfbcjeknibfjcaa", sum := "1bc2198ad67267e4a641adc847b000dbec9ed85992f64d865dc484d51b15e7a8", func := "testamur/testamurlaw13.DependsComplete", spec := "dependsComplete", unfollowed := true, recurses := true, apart := false }
def DependsCompleteSaid : Prop := dependsCompleteRow.holds Try.pinned (OpenSpec.ofChange dependsCompleteSpec)

/-- ITS FALSE NEIGHBOUR: 'it returns false'. Refute it at one input. -/
def dependsCompleteWrong : ChangeSpec := { name := "dependsComplete", fn := fun _ => fun
  | [d1, d2, d3] => { results := [.lit (.bool false)], args := [d1, d2, d3] }
  | _ => none }
def DependsCompleteWrongFalsely : Prop := dependsCompleteRow.holds Try.pinned (OpenSpec.ofChange dependsCompleteWrong)

/-- 'testamurlaw13.DependsFirst': WHATEVER THE INPUT: true; the input reads as it did. -/
def dependsFirstSpec : ChangeSpec := { name := "dependsFirst", fn := fun _ => fun
  | [d1, d2] => { results := [.lit (.bool true)], args := [d1, d2] }
  | _ => none }
def dependsFirstRow : OpenClaim := { program := "ytfbcjeknibfjcaa", sum := "1bc2198ad67267e4a641adc847b000dbec9ed85992f64d865dc484d51b15e7a8", func := "testamur/testamurlaw13.DependsFirst", spec := "dependsFirst", unfollowed := true, recurses := true, apart := false }
def DependsFirstSaid : Prop := dependsFirstRow.holds Try.pinned (OpenSpec.ofChange dependsFirstSpec)

/-- ITS FALSE NEIGHBOUR: 'it returns false'. Refute it at one input. -/
def dependsFirstWrong : ChangeSpec := { name := "dependsFirst", fn := fun _ => fun
  | [d1, d2] => { results := [.lit (.bool false)], args := [d1, d2] }
  | _ => none }
def DependsFirstWrongFalsely : Prop := dependsFirstRow.holds Try.pinned (OpenSpec.ofChange dependsFirstWrong)

/-- 'testamurlaw13.DependsAdded': WHATEVER THE INPUT: true; the input reads as it did. -/
def dependsAddedSpec : ChangeSpec := { name := "dependsAdded", fn := fun _ => fun
  | [d1, d2, d3] => { results := [.lit (.bool true)], args := [d1, d2, d3] }
  | _ => none }
def dependsAddedRow : OpenClaim := { program := "ytfbcjeknibfjcaa", sum := "1bc2198ad67267e4a641adc847b000dbec9ed85992f64d865dc484d51b15e7a8", func := "testamur/testamurlaw13.DependsAdded", spec := "dependsAdded", unfollowed := true, recurses := true, apart := false }
def DependsAddedSaid : Prop := dependsAddedRow.holds Try.pinned (OpenSpec.ofChange dependsAddedSpec)

/-- ITS FALSE NEIGHBOUR: 'it returns false'. Refute it at one input. -/
def dependsAddedWrong : ChangeSpec := { name := "dependsAdded", fn := fun _ => fun
  | [d1, d2, d3] => { results := [.lit (.bool false)], args := [d1, d2, d3] }
  | _ => none }
def DependsAddedWrongFalsely : Prop := dependsAddedRow.holds Try.pinned (OpenSpec.ofChange dependsAddedWrong)

/- THE SECOND FORM. 'bulk': how many values and letters a reading holds, each counted each time it is reached (what is shared counts as often as it is met; a slice's spare places count too). A statement '..UptoSaid' is the law's where the arguments, and the package variables that the reading takes, are together of bulk at most 1048576: NARROWER than '..Said'. Prove '..Said' where nothing that the law and all that it calls make is longer than what came in: it says more and counts as full. Else prove '..UptoSaid'. A law counts once. -/
mutual
def uptoBulk {H : Type} : DataW H → Nat
  | .lit (.string bytes) => bytes.length + 1
  | .lit _ => 1
  | .nil => 1
  | .ptr d => uptoBulk d + 1
  | .slice elems spare => uptoBulkAll elems + uptoBulkAll spare + 1
  | .agg parts => uptoBulkAll parts + 1
  | .iface _ d => uptoBulk d + 1
  | .map entries => uptoBulkEntries entries + 1
  | .held _ => 1
def uptoBulkAll {H : Type} : List (DataW H) → Nat
  | [] => 0
  | d :: r => uptoBulk d + uptoBulkAll r
def uptoBulkEntries {H : Type} : List (Lit × DataW H) → Nat
  | [] => 0
  | x :: r => uptoBulkEntry x + uptoBulkEntries r
def uptoBulkEntry {H : Type} : Lit × DataW H → Nat
  | (.string bytes, d) => bytes.length + uptoBulk d + 1
  | (_, d) => uptoBulk d + 1
 end
def uptoSmall : (H : Type) → List (DataW H) → Bool := fun _ ds => decide (uptoBulkAll ds ≤ 1048576)
def OpenSpec.upto (s : _root_.Go.ChangeSpec) : _root_.Go.OpenSpec := { _root_.Go.OpenSpec.ofChange s with cond := some uptoSmall }

/-- 'testamurlaw13.DependsSpec', WHERE WHAT IT READS IS OF BULK AT MOST 1048576: true; the input reads as it did. -/
def dependsSpecUptoRow : OpenClaim := { program := "ytfbcjeknibfjcaa", sum := "1bc2198ad67267e4a641adc847b000dbec9ed85992f64d865dc484d51b15e7a8", func := "testamur/testamurlaw13.DependsSpec", spec := "dependsSpec", unfollowed := true, recurses := true, apart := false, narrowed := true }
def DependsSpecUptoSaid : Prop := dependsSpecUptoRow.holds Try.pinned (OpenSpec.upto dependsSpecSpec)

/-- 'testamurlaw13.DependsBrokenSpec', WHERE WHAT IT READS IS OF BULK AT MOST 1048576: true; the input reads as it did. -/
def dependsBrokenSpecUptoRow : OpenClaim := { program := "ytfbcjeknibfjcaa", sum := "1bc2198ad67267e4a641adc847b000dbec9ed85992f64d865dc484d51b15e7a8", func := "testamur/testamurlaw13.DependsBrokenSpec", spec := "dependsBrokenSpec", unfollowed := true, recurses := true, apart := false, narrowed := true }
def DependsBrokenSpecUptoSaid : Prop := dependsBrokenSpecUptoRow.holds Try.pinned (OpenSpec.upto dependsBrokenSpecSpec)

/-- 'testamurlaw13.DependsClosure', WHERE WHAT IT READS IS OF BULK AT MOST 1048576: true; the input reads as it did. -/
def dependsClosureUptoRow : OpenClaim := { program := "ytfbcjeknibfjcaa", sum := "1bc2198ad67267e4a641adc847b000dbec9ed85992f64d865dc484d51b15e7a8", func := "testamur/testamurlaw13.DependsClosure", spec := "dependsClosure", unfollowed := true, recurses := true, apart := false, narrowed := true }
def DependsClosureUptoSaid : Prop := dependsClosureUptoRow.holds Try.pinned (OpenSpec.upto dependsClosureSpec)

/-- 'testamurlaw13.DependsSound', WHERE WHAT IT READS IS OF BULK AT MOST 1048576: true; the input reads as it did. -/
def dependsSoundUptoRow : OpenClaim := { program := "ytfbcjeknibfjcaa", sum := "1bc2198ad67267e4a641adc847b000dbec9ed85992f64d865dc484d51b15e7a8", func := "testamur/testamurlaw13.DependsSound", spec := "dependsSound", unfollowed := true, recurses := true, apart := false, narrowed := true }
def DependsSoundUptoSaid : Prop := dependsSoundUptoRow.holds Try.pinned (OpenSpec.upto dependsSoundSpec)

/-- 'testamurlaw13.DependsComplete', WHERE WHAT IT READS IS OF BULK AT MOST 1048576: true; the input reads as it did. -/
def dependsCompleteUptoRow : OpenClaim := { program := "ytfbcjeknibfjcaa", sum := "1bc2198ad67267e4a641adc847b000dbec9ed85992f64d865dc484d51b15e7a8", func := "testamur/testamurlaw13.DependsComplete", spec := "dependsComplete", unfollowed := true, recurses := true, apart := false, narrowed := true }
def DependsCompleteUptoSaid : Prop := dependsCompleteUptoRow.holds Try.pinned (OpenSpec.upto dependsCompleteSpec)

/-- 'testamurlaw13.DependsFirst', WHERE WHAT IT READS IS OF BULK AT MOST 1048576: true; the input reads as it did. -/
def dependsFirstUptoRow : OpenClaim := { program := "ytfbcjeknibfjcaa", sum := "1bc2198ad67267e4a641adc847b000dbec9ed85992f64d865dc484d51b15e7a8", func := "testamur/testamurlaw13.DependsFirst", spec := "dependsFirst", unfollowed := true, recurses := true, apart := false, narrowed := true }
def DependsFirstUptoSaid : Prop := dependsFirstUptoRow.holds Try.pinned (OpenSpec.upto dependsFirstSpec)

/-- 'testamurlaw13.DependsAdded', WHERE WHAT IT READS IS OF BULK AT MOST 1048576: true; the input reads as it did. -/
def dependsAddedUptoRow : OpenClaim := { program := "ytfbcjeknibfjcaa", sum := "1bc2198ad67267e4a641adc847b000dbec9ed85992f64d865dc484d51b15e7a8", func := "testamur/testamurlaw13.DependsAdded", spec := "dependsAdded", unfollowed := true, recurses := true, apart := false, narrowed := true }
def DependsAddedUptoSaid : Prop := dependsAddedUptoRow.holds Try.pinned (OpenSpec.upto dependsAddedSpec)

end Rows
end Go.Proofs.Ytfbcjeknibfjcaa
