/- A piece of a row, to be read; rows of tiles. No conditions. -/
import Derived.Test.YtmebmkkllhnmlaaSxRw
namespace Go.Proofs.Ytmebmkkllhnmlaa
open Go.RowKit
set_option linter.unusedVariables false
set_option linter.unusedSimpArgs false
section
variable {P : Program} {N : Frm} {w0 w : World} {Wr : List Nat} {ops : Array Oper} {rest : List Oper} {fr : Fr} {H : Heap} {Z : Fr → Heap → Prop} {d ty : Nat} {pos : String} {after : Array Edge}
end
end Go.Proofs.Ytmebmkkllhnmlaa
