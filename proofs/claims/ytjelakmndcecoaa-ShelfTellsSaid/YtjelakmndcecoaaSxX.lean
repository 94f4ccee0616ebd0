/- The small logic: regions that draw their order and end with one operation that waits for all others, and may turn what these read. No conditions. -/
import Derived.Test.YtjelakmndcecoaaSxZ
namespace Go.Proofs.Ytjelakmndcecoaa
open Go.RowKit
set_option linter.unusedVariables false
set_option linter.unusedSimpArgs false
set_option linter.unusedSectionVars false
section
variable {P : Program} {N : Frm} {w0 : World} {Wr : List Nat} {ops : Array Oper} {C : World → Prop} {Q Q' : Exit → Act → World → Prop} {fr : Fr} {H : Heap}
/-- The last operation, behind all others. -/
def QF (P : Program) (ops : Array Oper) (Q : Exit → Act → World → Prop) (f : Nat) : Exit → Act → World → Prop := fun _ a w => wpOp P ops (QN Q) f (fun a w => QN Q .normal a w) a w
def lastB (l : List Oper) (ls : List (Nat × Bool)) (f : Nat) : Bool := calmB l (ls ++ [(f, false)]) && vB l.toArray (ancs l) ls && ls.all fun x => ((ancs l).getD f []).contains x.1
end
end Go.Proofs.Ytjelakmndcecoaa
