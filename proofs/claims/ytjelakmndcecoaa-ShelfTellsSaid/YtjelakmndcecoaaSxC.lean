/- The small logic: calls that hand back a row of their own or what came in; parts of what is only read. No conditions but of lengths. -/
import Derived.Test.YtjelakmndcecoaaSxP
import Derived.Test.YtjelakmndcecoaaSxS
namespace Go.Proofs.Ytjelakmndcecoaa
open Go.RowKit
set_option linter.unusedVariables false
set_option linter.unusedSimpArgs false
set_option linter.unusedSectionVars false
section
variable {P : Program} {N : Frm} {w0 w : World} {Wr : List Nat} {ops : Array Oper} {rest : List Oper} {fr : Fr} {H : Heap} {Z : Fr → Heap → Prop} {d ty : Nat} {pos : String} {after : Array Edge}
end
/-- Operations that are no calls of functions. -/
def detB2 (ops : Array Oper) (j : Nat) : Bool := detB ops j || match ops[j]? with
  | some o => match o.op with
    | .call c => match c.callee with
      | .builtin .append => true
      | _ => false
    | .makeSlice .. => true
    | .makeMap .. => true
    | .store .. => true
    | _ => false
  | none => false
def manyB2 (l : List Oper) (gs : List Nat) (S : List (List (Nat × Bool))) : Bool :=
  Region.noSelect l.toArray && covB (ancs l) (detB2 l.toArray) gs.length (S.map gsOf) && (S.all fun ls => ordB l (fun i => !gs.contains i) ls && Nat.beq (gsOf ls).length gs.length)
section
variable {P : Program} {Q : Exit → Act → World → Prop} {C : World → Prop}
end
end Go.Proofs.Ytjelakmndcecoaa
