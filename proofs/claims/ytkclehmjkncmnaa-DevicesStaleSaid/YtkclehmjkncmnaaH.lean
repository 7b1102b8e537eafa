import Derived.Test.YtkclehmjkncmnaaWMore
namespace Go.Proofs.YtkclehmjkncmnaaH
open Go.RowKit
variable {P : Program} {ops : Array Oper} {rest : List Oper} {a : Act} {w : World} {Q : Exit → Act → World → Prop}
theorem pass_assign {dst : Option Tmp} {x : Operand} {t : TypeId} {p : String} {after : Array Edge} (h : wpList P ops Q rest (a.put dst (a.eval x)) w) :
    wpList P ops Q ({ dst := dst, op := .assign x, type := t, pos := p, after := after, guard := none } :: rest) a w := by
  refine wpList_plain rfl fun K hK => ?_
  simp only [Oper.wp, execOp]
  exact hK _ _ h
theorem pass_move {dst : Option Tmp} {x : Operand} {t : TypeId} {p : String} {after : Array Edge} (h : wpList P ops Q rest (a.put dst (a.eval x)) w) :
    wpList P ops Q ({ dst := dst, op := .move x, type := t, pos := p, after := after, guard := none } :: rest) a w := by
  refine wpList_plain rfl fun K hK => ?_
  simp only [Oper.wp, execOp]
  exact hK _ _ h
end Go.Proofs.YtkclehmjkncmnaaH
