/- The law's sane: it returns true. -/
import Derived.Test.YtfbcjeknibfjcaaG8a
namespace Go.Proofs.Ytfbcjeknibfjcaa.P
open Go.RowKit Go.Proofs.YtfbcjeknibfjcaaW.PrintWords Go.Proofs.YtfbcjeknibfjcaaW.PrintLast Go.Proofs.YtfbcjeknibfjcaaW.PrintMore
set_option linter.unusedVariables false
def testamurlaw13_sane.f : Option Bool := some true
theorem testamurlaw13_sane.calls (r : Bool) (w : World) (h : testamurlaw13_sane.f = some r) : Calls Try.prog 10 #[] w fun e w' => e = .returned (.bool r) ∧ Below w.heap.size w w' := by
  obtain rfl := Option.some.inj h
  exact Sn.sane_walk w
end Go.Proofs.Ytfbcjeknibfjcaa.P
