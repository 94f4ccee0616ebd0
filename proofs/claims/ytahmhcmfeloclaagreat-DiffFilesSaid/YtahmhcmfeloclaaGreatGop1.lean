/- How arguments of plain kinds read: what the reading of an argument tells of its value. No conditions. How a slice of numbers of 64 bits reads. No conditions. -/
import Derived.Test.YtahmhcmfeloclaaGreatMem
import Derived.ProofKit
import Derived.OpenShut
import Derived.ShutString
import Derived.ChangeOld
import Derived.Lib.SmallJoins
namespace Go.Proofs.YtahmhcmfeloclaaGreat
open Go.RowKit Go.ChangeShapes Go.WideShapes Go.ChangeAt Go.Joins
open Go.ChangeMaps (open_string)
set_option linter.unusedVariables false
set_option linter.unusedSimpArgs false
section
variable {H : Type} {enc : TypeId × Value → H} {w : World} {base : Nat} {spare : Nat → Bool} {held : Bool}
end
end Go.Proofs.YtahmhcmfeloclaaGreat

namespace Go.Proofs.YtahmhcmfeloclaaGreat
open Go.RowKit Go.ChangeShapes Go.WideShapes Go.ChangeAt Go.Joins
set_option linter.unusedVariables false
set_option linter.unusedSimpArgs false
section
variable {H : Type} {enc : TypeId × Value → H} {w : World} {base : Nat} {spare : Nat → Bool} {held : Bool}
/-- Numbers of 64 bits as the model holds them. -/
def uv (l : List Nat) : List Value := l.map fun (x : Nat) => .int .u64 ((x : Nat) : Int)
end
end Go.Proofs.YtahmhcmfeloclaaGreat
